/- Parts of the proof. -/
import Derived.Test.YtllbabjgpdmblaaZClT
import Derived.Test.YtllbabjgpdmblaaZCl31
set_option linter.unusedSimpArgs false
set_option linter.unusedVariables false
namespace Go.SX.Cl
open Go Go.SX Go.Proofs
set_option maxRecDepth 100000
def c59r0 : List GOp := [
 gv 2 (.box 24 (.tmp 0)),
 gv 3 (.box 32 (.tmp 1)),
 gv 4 (.alloc 45 (.agg #[(.bool false), (.bool false), (.bool false), oz, oz, oz, oz, oz, oz, oz, oz, oz, oz, oz, oz, oz]))]
def c59r1 : List GOp := [
 gv 14 (.build (.agg #[oz, oz]) [((0, 1), (.const (.int .i64 0))), ((1, 1), (.const (.int .i64 1)))]),
 gv 5 (.alloc 39 (.agg #[oz, oz])),
 ⟨none, .store 2 (.tmp 5) (.tmp 14), none⟩]
def c59r2 : List GOp := [
 gv 15 (.load 1 true (.tmp 2)),
 gv 16 (.load 10 true (.tmp 3)),
 gv 17 (.call 69 [(.tmp 15), (.tmp 16), (.const (.int .i64 1))]),
 gv 6 (.mv (.tmp 17))]
def c59r3 : List GOp := [
 gv 18 (.load 1 true (.tmp 2)),
 gv 19 (.load 10 true (.tmp 3)),
 gv 20 (.call 69 [(.tmp 18), (.tmp 19), (.const (.int .i64 2))]),
 gv 7 (.mv (.tmp 20))]
def c59r4 : List GOp := [
 gv 21 (.load 1 true (.tmp 2)),
 gv 22 (.load 10 true (.tmp 3)),
 gv 23 (.call 69 [(.tmp 21), (.tmp 22), (.const (.int .i64 3))]),
 gv 8 (.mv (.tmp 23))]
def c59r5 : List GOp := [
 gv 24 (.load 1 true (.tmp 2)),
 gv 25 (.load 10 true (.tmp 3)),
 gv 26 (.call 69 [(.tmp 24), (.tmp 25), (.const (.int .i64 4))]),
 gv 9 (.mv (.tmp 26))]
def c59r6 : List GOp := [
 gv 27 (.load 1 true (.tmp 2)),
 gv 28 (.load 10 true (.tmp 3)),
 gv 29 (.call 69 [(.tmp 27), (.tmp 28), (.const (.int .i64 5))]),
 gv 10 (.mv (.tmp 29))]
def c59r7 : List GOp := [
 gv 30 (.load 2 true (.tmp 5)),
 gv 31 (.load 2 true (.tmp 5)),
 gv 32 (.load 2 true (.tmp 5)),
 gv 33 (.load 2 true (.tmp 5)),
 gv 34 (.load 2 true (.tmp 5)),
 gv 35 (.mv (.tmp 6)),
 gv 36 (.build (.agg #[(.bool false), (.bool false), (.bool false), oz, oz, oz, oz, oz, oz, oz, oz, oz, oz, oz, oz, oz]) [((5, 2), (.tmp 30)), ((7, 2), (.tmp 31)), ((9, 2), (.tmp 32)), ((11, 2), (.tmp 33)), ((13, 2), (.tmp 34)), ((15, 1), (.tmp 35))]),
 gv 11 (.alloc 45 (.agg #[(.bool false), (.bool false), (.bool false), oz, oz, oz, oz, oz, oz, oz, oz, oz, oz, oz, oz, oz])),
 ⟨none, .store 16 (.tmp 11) (.tmp 36), none⟩]
def c59r8 : List GOp := [
 gv 37 (.mv (.tmp 6)),
 gv 38 (.bin .geq (.tmp 37) (.const (.int .i64 0))),
 gv 39 (.mv (.tmp 38)),
 gw 40 39 true (.mv (.tmp 8)),
 gw 41 39 true (.bin .geq (.tmp 40) (.const (.int .i64 0))),
 gv 42 (.pick (.tmp 39) (.tmp 41) (.const (.bool false))),
 gv 43 (.mv (.tmp 42)),
 gw 44 43 true (.mv (.tmp 7)),
 gw 45 43 true (.bin .lss (.tmp 44) (.const (.int .i64 0))),
 gv 46 (.pick (.tmp 43) (.tmp 45) (.const (.bool false))),
 gv 47 (.fadd 0 (.tmp 11)),
 ⟨none, .store 1 (.tmp 47) (.tmp 46), none⟩]
def c59r9 : List GOp := [
 gv 48 (.load 1 true (.tmp 2)),
 gv 49 (.load 10 true (.tmp 3)),
 gv 50 (.call 69 [(.tmp 48), (.tmp 49), (.const (.int .i64 6))]),
 gv 51 (.bin .geq (.tmp 50) (.const (.int .i64 0))),
 gv 52 (.fadd 1 (.tmp 11)),
 ⟨none, .store 1 (.tmp 52) (.tmp 51), none⟩]
def c59r10 : List GOp := [
 gv 53 (.load 1 true (.tmp 2)),
 gv 54 (.load 10 true (.tmp 3)),
 gv 55 (.call 69 [(.tmp 53), (.tmp 54), (.const (.int .i64 7))]),
 gv 56 (.bin .geq (.tmp 55) (.const (.int .i64 0))),
 gv 57 (.fadd 2 (.tmp 11)),
 ⟨none, .store 1 (.tmp 57) (.tmp 56), none⟩]
def c59r11 : List GOp := [
 gv 12 (.mv (.const (.int .i64 0)))]
def c59r12 : List GOp := [
 gv 58 (.mv (.tmp 12)),
 gv 59 (.fadd 0 (.tmp 2)),
 gv 60 (.load 1 false (.tmp 59)),
 gv 61 (.len false (.tmp 60)),
 gv 62 (.bin .lss (.tmp 58) (.tmp 61))]
def c59r13 : List GOp := [
 gv 65 (.fadd 0 (.tmp 2)),
 gv 66 (.load 1 false (.tmp 65)),
 gv 67 (.mv (.tmp 12)),
 gv 68 (.idxA 8 (.tmp 66) (.tmp 67)),
 gv 69 (.load 8 true (.tmp 68)),
 gv 13 (.alloc 41 (.agg #[oz, (.string ⟨#[]⟩), (.slice none 0 0), oz, oz, oz, oz, oz])),
 ⟨none, .store 8 (.tmp 13) (.tmp 69), none⟩]
def c59r14 : List GOp := [
 gv 70 (.fadd 0 (.tmp 13)),
 gv 71 (.load 1 false (.tmp 70)),
 gv 72 (.bin .eql (.tmp 71) (.const (.int .i64 1))),
 gv 73 (.mv (.tmp 72)),
 gw 74 73 true (.load 8 true (.tmp 13)),
 gw 75 73 true (.load 10 true (.tmp 3)),
 gw 76 73 true (.call 60 [(.tmp 74), (.tmp 75)]),
 gv 77 (.pick (.tmp 73) (.tmp 76) (.const (.bool false))),
 gv 78 (.mv (.tmp 77)),
 gw 79 78 true (.fadd 3 (.tmp 13)),
 gw 80 78 true (.load 1 false (.tmp 79)),
 gw 81 78 true (.bin .gtr (.tmp 80) (.const (.int .i64 0))),
 gv 82 (.pick (.tmp 78) (.tmp 81) (.const (.bool false))),
 gv 83 (.mv (.tmp 82)),
 gw 84 83 true (.fadd 3 (.tmp 11)),
 gw 85 83 true (.load 1 false (.tmp 84)),
 gw 86 83 true (.bin .eql (.tmp 85) (.const (.int .i64 0))),
 gw 87 83 true (.mv (.tmp 86)),
 gw 88 87 false (.fadd 3 (.tmp 13)),
 gw 89 87 false (.load 1 false (.tmp 88)),
 gw 90 87 false (.fadd 3 (.tmp 11)),
 gw 91 87 false (.load 1 false (.tmp 90)),
 gw 92 87 false (.bin .lss (.tmp 89) (.tmp 91)),
 gw 93 83 true (.pick (.tmp 87) (.const (.bool true)) (.tmp 92)),
 gv 94 (.pick (.tmp 83) (.tmp 93) (.const (.bool false)))]
def c59r15 : List GOp := [
 gv 95 (.fadd 3 (.tmp 13)),
 gv 96 (.load 1 false (.tmp 95)),
 gv 97 (.fadd 3 (.tmp 11)),
 ⟨none, .store 1 (.tmp 97) (.tmp 96), none⟩]
def c59r16 : List GOp := [
 gv 63 (.mv (.tmp 12)),
 gv 64 (.bin .add (.tmp 63) (.const (.int .i64 1))),
 gv 12 (.mv (.tmp 64))]
def c59l17 : DE := .seq (.seq (.reg c59r12) (.cond (.tmp 62) (.skip) (.exit 0))) (.join (.block 1 (.seq (.reg c59r13) (.join (.reg c59r14) (.cond (.tmp 94) (.reg c59r15) (.skip))))) (.reg c59r16))
def c59r18 : List GOp := [
 gv 98 (.mv (.tmp 8)),
 gv 99 (.bin .geq (.tmp 98) (.const (.int .i64 0)))]
def c59r19 : List GOp := [
 gv 100 (.fadd 0 (.tmp 2)),
 gv 101 (.load 1 false (.tmp 100)),
 gv 102 (.mv (.tmp 8)),
 gv 103 (.idxA 8 (.tmp 101) (.tmp 102)),
 gv 104 (.fadd 3 (.tmp 103)),
 gv 105 (.load 1 false (.tmp 104)),
 gv 106 (.fadd 4 (.tmp 11)),
 ⟨none, .store 1 (.tmp 106) (.tmp 105), none⟩]
def c59r20 : List GOp := [
 gv 107 (.fadd 0 (.tmp 2)),
 gv 108 (.load 1 false (.tmp 107)),
 gv 109 (.mv (.tmp 8)),
 gv 110 (.idxA 8 (.tmp 108) (.tmp 109)),
 gv 111 (.fadd 4 (.tmp 110)),
 gv 112 (.load 2 true (.tmp 111)),
 gv 113 (.fadd 5 (.tmp 11)),
 ⟨none, .store 2 (.tmp 113) (.tmp 112), none⟩]
def c59r21 : List GOp := [
 gv 114 (.fadd 0 (.tmp 2)),
 gv 115 (.load 1 false (.tmp 114)),
 gv 116 (.mv (.tmp 8)),
 gv 117 (.idxA 8 (.tmp 115) (.tmp 116)),
 gv 118 (.fadd 6 (.tmp 117)),
 gv 119 (.load 2 true (.tmp 118)),
 gv 120 (.fadd 7 (.tmp 11)),
 ⟨none, .store 2 (.tmp 120) (.tmp 119), none⟩]
def c59r22 : List GOp := [
 gv 121 (.mv (.tmp 9)),
 gv 122 (.bin .geq (.tmp 121) (.const (.int .i64 0)))]
def c59r23 : List GOp := [
 gv 123 (.fadd 0 (.tmp 2)),
 gv 124 (.load 1 false (.tmp 123)),
 gv 125 (.mv (.tmp 9)),
 gv 126 (.idxA 8 (.tmp 124) (.tmp 125)),
 gv 127 (.fadd 4 (.tmp 126)),
 gv 128 (.load 2 true (.tmp 127)),
 gv 129 (.fadd 9 (.tmp 11)),
 ⟨none, .store 2 (.tmp 129) (.tmp 128), none⟩]
def c59r24 : List GOp := [
 gv 130 (.fadd 0 (.tmp 2)),
 gv 131 (.load 1 false (.tmp 130)),
 gv 132 (.mv (.tmp 9)),
 gv 133 (.idxA 8 (.tmp 131) (.tmp 132)),
 gv 134 (.fadd 6 (.tmp 133)),
 gv 135 (.load 2 true (.tmp 134)),
 gv 136 (.fadd 11 (.tmp 11)),
 ⟨none, .store 2 (.tmp 136) (.tmp 135), none⟩]
def c59r25 : List GOp := [
 gv 137 (.mv (.tmp 10)),
 gv 138 (.bin .geq (.tmp 137) (.const (.int .i64 0)))]
def c59r26 : List GOp := [
 gv 139 (.fadd 0 (.tmp 2)),
 gv 140 (.load 1 false (.tmp 139)),
 gv 141 (.mv (.tmp 10)),
 gv 142 (.idxA 8 (.tmp 140) (.tmp 141)),
 gv 143 (.fadd 4 (.tmp 142)),
 gv 144 (.load 2 true (.tmp 143)),
 gv 145 (.fadd 13 (.tmp 11)),
 ⟨none, .store 2 (.tmp 145) (.tmp 144), none⟩]
def c59r27 : List GOp := [
 gv 146 (.mv (.tmp 7)),
 gv 147 (.bin .geq (.tmp 146) (.const (.int .i64 0)))]
def c59r28 : List GOp := [
 gv 148 (.mv (.tmp 7)),
 gv 149 (.fadd 15 (.tmp 11)),
 ⟨none, .store 1 (.tmp 149) (.tmp 148), none⟩]
def c59r29 : List GOp := [
 gv 150 (.load 16 true (.tmp 11)),
 ⟨none, .store 16 (.tmp 4) (.tmp 150), none⟩]
def c59 : EFn := ⟨151, .seq (.reg c59r0) (.seq (.reg c59r1) (.seq (.reg c59r2) (.seq (.reg c59r3) (.seq (.reg c59r4) (.seq (.reg c59r5) (.seq (.reg c59r6) (.seq (.reg c59r7) (.join (.reg c59r8) (.seq (.reg c59r9) (.seq (.reg c59r10) (.join (.seq (.reg c59r11) (.block 0 (.loop c59l17))) (.join (.seq (.reg c59r18) (.cond (.tmp 99) (.seq (.reg c59r19) (.seq (.reg c59r20) (.reg c59r21))) (.skip))) (.join (.seq (.reg c59r22) (.cond (.tmp 122) (.seq (.reg c59r23) (.reg c59r24)) (.skip))) (.join (.seq (.reg c59r25) (.cond (.tmp 138) (.reg c59r26) (.skip))) (.join (.seq (.reg c59r27) (.cond (.tmp 147) (.reg c59r28) (.skip))) (.seq (.reg c59r29) (.ret))))))))))))))))), [.cell 4 16 true]⟩
theorem c59_ok : compF Try.prog 59 = some c59.er := by kernel_rfl
noncomputable def ref13_Decide_l2 (p : Policy) (f : (A10 Int)) : (Int × Int) → Option ((Int × Int) ⊕ (Int))
 | (Limit10, i11) =>
 bif (io.lt i11 (io.len (W eRule p.Rules))) then (
 Option.bind (
 Option.bind (idxG p.Rules i11) fun x13 =>
 Option.bind (
 bif (io.eq x13.Kind 1) then (
 Option.bind (ref13_Holds_g x13 f) fun v15 =>
 bif v15 then (
 bif (io.lt 0 x13.N) then (
 bif (io.eq Limit10 0) then (
 some true
 ) else (
 some (io.lt x13.N Limit10)
 )
 ) else (
 some false
 )
 ) else (
 some false
 )
 ) else (
 some false
 )
 ) fun v14 =>
 bif v14 then (
 some x13.N
 ) else (
 some Limit10
 )
 ) fun Limit12 =>
 some (.inl (Limit12, (io.ar .add .i64 i11 1)))
 ) else (
 some (.inr Limit10)
 )
noncomputable def ref13_Decide_g (p : Policy) (f : (A10 Int)) : Option (Decision) :=
 Option.bind (ref13_First_g p f 1) fun allow1 =>
 Option.bind (ref13_First_g p f 2) fun deny2 =>
 Option.bind (ref13_First_g p f 3) fun price3 =>
 Option.bind (ref13_First_g p f 4) fun resale4 =>
 Option.bind (ref13_First_g p f 5) fun refund5 =>
 Option.bind (
 bif (io.le 0 allow1) then (
 bif (io.le 0 price3) then (
 some (io.lt deny2 0)
 ) else (
 some false
 )
 ) else (
 some false
 )
 ) fun Allowed6 =>
 Option.bind (ref13_First_g p f 6) fun v7 =>
 Option.bind (ref13_First_g p f 7) fun v8 =>
 Option.bind (
 whileG (ref13_Decide_l2 p f) (0, 0)
 ) fun Limit9 =>
 Option.bind (
 bif (io.le 0 price3) then (
 Option.bind (idxG p.Rules price3) fun x21 =>
 Option.bind (idxG p.Rules price3) fun x22 =>
 Option.bind (idxG p.Rules price3) fun x23 =>
 some (x21.N, x22.R.Num, x22.R.Den, x23.S.Num, x23.S.Den)
 ) else (
 some (0, 0, 1, 0, 1)
 )
 ) fun (Price16, Num17, Den18, Num19, Den20) =>
 Option.bind (
 bif (io.le 0 resale4) then (
 Option.bind (idxG p.Rules resale4) fun x28 =>
 Option.bind (idxG p.Rules resale4) fun x29 =>
 some (x28.R.Num, x28.R.Den, x29.S.Num, x29.S.Den)
 ) else (
 some (0, 1, 0, 1)
 )
 ) fun (Num24, Den25, Num26, Den27) =>
 Option.bind (
 bif (io.le 0 refund5) then (
 Option.bind (idxG p.Rules refund5) fun x32 =>
 some (x32.R.Num, x32.R.Den)
 ) else (
 some (0, 1)
 )
 ) fun (Num30, Den31) =>
 Option.bind (
 bif (io.le 0 deny2) then (
 some deny2
 ) else (
 some allow1
 )
 ) fun By33 =>
 some (Decision.mk Allowed6 (io.le 0 v7) (io.le 0 v8) Limit9 Price16 (Ratio.mk Num17 Den18) (Ratio.mk Num19 Den20) (Ratio.mk Num24 Den25) (Ratio.mk Num26 Den27) (Ratio.mk Num30 Den31) By33)
set_option maxHeartbeats 4000000 in
theorem ref13_Decide_R {P : Program} (hP : P = Try.prog) (p : Policy) (f : (A10 Int)) (r : Decision) (h : ref13_Decide_g p f = some r) : Fn1 P 59 [vPolicy p, vA10Ii64 f] (vDecision r) := by
 refine .walkE (hP ▸ c59_ok) fun K hK => ?_
 unfold ref13_Decide_g at h
 cbv
 refine .g h (fun v hv => ref13_First_R hP _ _ _ v hv) aw_ rfl (fun _ => rfl) fun allow1 h => ?_
 cbv
 refine .g h (fun v hv => ref13_First_R hP _ _ _ v hv) aw_ rfl (fun _ => rfl) fun deny2 h => ?_
 cbv
 refine .g h (fun v hv => ref13_First_R hP _ _ _ v hv) aw_ rfl (fun _ => rfl) fun price3 h => ?_
 cbv
 refine .g h (fun v hv => ref13_First_R hP _ _ _ v hv) aw_ rfl (fun _ => rfl) fun resale4 h => ?_
 cbv
 refine .g h (fun v hv => ref13_First_R hP _ _ _ v hv) aw_ rfl (fun _ => rfl) fun refund5 h => ?_
 cbv
 refine .g h (fun (Allowed6 : Bool) => [.top, .top, .ptr 0 0, .ptr 1 0, .ptr 2 0, .top, .top, oi deny2, oi price3, oi resale4, oi refund5, .ptr 3 0] ++ rp 139 .top) (fun (Allowed6 : Bool) => [.cells [.d (.sl (W eRule p.Rules))] 24, .cells (ca f) 32, .cells [ob false, ob false, ob false, oi 0, oi 0, oi 0, oi 0, oi 0, oi 0, oi 0, oi 0, oi 0, oi 0, oi 0, oi 0, oi 0] 45, .cells [ob Allowed6, ob false, ob false, oi 0, oi 0, oi 0, oi 1, oi 0, oi 1, oi 0, oi 1, oi 0, oi 1, oi 0, oi 1, oi allow1] 45]) (fun y hm Kn1 hKn1 => ?_) fun t h => ?_
 · have h := hm
   clear hm
   cbv
   refine brkG h ?_ ?_ <;> intro h
   · cbv
     refine brkG h ?_ ?_ <;> intro h
     · cbv
       obtain rfl := oj h
       refine hKn1 _ _ _ rfl (.nz (.mtE [0, 1, 2, 4] ?_))
       (cbv; repeat (refine ⟨an_, ?_⟩; cbv))
     · cbv
       obtain rfl := oj h
       refine hKn1 _ _ _ rfl (.nz (.mtE [0, 1, 2, 4] ?_))
       (cbv; repeat (refine ⟨an_, ?_⟩; cbv))
   · cbv
     obtain rfl := oj h
     refine hKn1 _ _ _ rfl (.nz (.mtE [0, 1, 2, 4] ?_))
     (cbv; repeat (refine ⟨an_, ?_⟩; cbv))
 obtain ⟨Allowed6, rfl⟩ : ∃ z, z = t := ⟨_, rfl⟩
 cbv
 refine .g h (fun v hv => ref13_First_R hP _ _ _ v hv) aw_ rfl (fun _ => rfl) fun v7 h => ?_
 cbv
 refine .g h (fun v hv => ref13_First_R hP _ _ _ v hv) aw_ rfl (fun _ => rfl) fun v8 h => ?_
 cbv
 refine .g h (fun (Limit9 : Int) => [.top, .top, .ptr 0 0, .top, .ptr 1 0, .top, .top, oi deny2, oi price3, oi resale4, oi refund5, .ptr 2 0] ++ rp 139 .top) (fun (Limit9 : Int) => [.cells [.d (.sl (W eRule p.Rules))] 24, .cells [ob false, ob false, ob false, oi 0, oi 0, oi 0, oi 0, oi 0, oi 0, oi 0, oi 0, oi 0, oi 0, oi 0, oi 0, oi 0] 45, .cells [ob Allowed6, ob (io.le 0 v7), ob (io.le 0 v8), oi Limit9, oi 0, oi 0, oi 1, oi 0, oi 1, oi 0, oi 1, oi 0, oi 1, oi 0, oi 1, oi allow1] 45]) (fun y hm Kn1 hKn1 => ?_) fun t h => ?_
 · have h := hm
   clear hm
   cbv
   refine .g h (fun ((Limit10, i11) : Int × Int) => [.top, .top, .ptr 0 0, .ptr 1 0, .ptr 2 0, .top, .top, oi deny2, oi price3, oi resale4, oi refund5, .ptr 3 0, oi i11] ++ rp 138 .top) (fun ((Limit10, i11) : Int × Int) => [.cells [.d (.sl (W eRule p.Rules))] 24, .cells (ca f) 32, .cells [ob false, ob false, ob false, oi 0, oi 0, oi 0, oi 0, oi 0, oi 0, oi 0, oi 0, oi 0, oi 0, oi 0, oi 0, oi 0] 45, .cells [ob Allowed6, ob (io.le 0 v7), ob (io.le 0 v8), oi Limit10, oi 0, oi 0, oi 1, oi 0, oi 1, oi 0, oi 1, oi 0, oi 1, oi 0, oi 1, oi allow1] 45]) (.nz (.mtE [0, 1, 2, 3] ?_)) fun s x h hr2 Kn2 hKn2 => ?_
   · (cbv; repeat (refine ⟨an_, ?_⟩; cbv))
   unfold ref13_Decide_l2 at h
   obtain ⟨Limit10, i11⟩ := s
   cbv
   refine brkG h ?_ ?_ <;> intro h
   · cbv
     refine .g h (fun (Limit12 : Int) => [.top, .top, .ptr 0 0, .ptr 1 0, .ptr 2 0, .top, .top, oi deny2, oi price3, oi resale4, oi refund5, .ptr 3 0, oi i11] ++ rp 138 .top) (fun (Limit12 : Int) => [.cells [.d (.sl (W eRule p.Rules))] 24, .cells (ca f) 32, .cells [ob false, ob false, ob false, oi 0, oi 0, oi 0, oi 0, oi 0, oi 0, oi 0, oi 0, oi 0, oi 0, oi 0, oi 0, oi 0] 45, .cells [ob Allowed6, ob (io.le 0 v7), ob (io.le 0 v8), oi Limit12, oi 0, oi 0, oi 1, oi 0, oi 1, oi 0, oi 1, oi 0, oi 1, oi 0, oi 1, oi allow1] 45]) (fun y hm Kn3 hKn3 => ?_) fun t h => ?_
     · have h := hm
       clear hm
       cbv
       refine .g h (fun _ => rfl) fun x13 h => ?_
       cbv
       refine .g h (fun (v14 : Bool) => [.top, .top, .ptr 0 0, .ptr 1 0, .ptr 2 0, .top, .top, oi deny2, oi price3, oi resale4, oi refund5, .ptr 3 0, oi i11, .ptr 4 0] ++ rp 80 .top ++ [ob v14] ++ rp 56 .top) (fun (v14 : Bool) => [.cells [.d (.sl (W eRule p.Rules))] 24, .cells (ca f) 32, .cells [ob false, ob false, ob false, oi 0, oi 0, oi 0, oi 0, oi 0, oi 0, oi 0, oi 0, oi 0, oi 0, oi 0, oi 0, oi 0] 45, .cells [ob Allowed6, ob (io.le 0 v7), ob (io.le 0 v8), oi Limit10, oi 0, oi 0, oi 1, oi 0, oi 1, oi 0, oi 1, oi 0, oi 1, oi 0, oi 1, oi allow1] 45, .cells [oi x13.Kind, .d (.val (.string x13.Name)), .d (.sl (W eA10Range x13.Zones)), oi x13.N, oi x13.R.Num, oi x13.R.Den, oi x13.S.Num, oi x13.S.Den] 41]) (fun y hm Kn4 hKn4 => ?_) fun t h => ?_
       · have h := hm
         clear hm
         cbv
         refine brkG h ?_ ?_ <;> intro h
         · cbv
           refine .g h (fun v hv => ref13_Holds_R hP _ _ v hv) aw_ rfl (fun _ => rfl) fun v15 h => ?_
           cbv
           refine brkG h ?_ ?_ <;> intro h
           · cbv
             refine brkG h ?_ ?_ <;> intro h
             · cbv
               refine brkG h ?_ ?_ <;> intro h
               · cbv
                 obtain rfl := oj h
                 refine hKn4 _ _ _ rfl (.nz (.mtE [0, 1, 2, 3, 4] ?_))
                 (cbv; repeat (refine ⟨an_, ?_⟩; cbv))
               · cbv
                 obtain rfl := oj h
                 refine hKn4 _ _ _ rfl (.nz (.mtE [0, 1, 2, 3, 4] ?_))
                 (cbv; repeat (refine ⟨an_, ?_⟩; cbv))
             · cbv
               obtain rfl := oj h
               refine hKn4 _ _ _ rfl (.nz (.mtE [0, 1, 2, 3, 4] ?_))
               (cbv; repeat (refine ⟨an_, ?_⟩; cbv))
           · cbv
             obtain rfl := oj h
             refine hKn4 _ _ _ rfl (.nz (.mtE [0, 1, 2, 3, 4] ?_))
             (cbv; repeat (refine ⟨an_, ?_⟩; cbv))
         · cbv
           obtain rfl := oj h
           refine hKn4 _ _ _ rfl (.nz (.mtE [0, 1, 2, 3, 4] ?_))
           (cbv; repeat (refine ⟨an_, ?_⟩; cbv))
       obtain ⟨v14, rfl⟩ : ∃ z, z = t := ⟨_, rfl⟩
       cbv
       refine brkG h ?_ ?_ <;> intro h
       · cbv
         obtain rfl := oj h
         refine hKn3 _ _ _ rfl (.nz (.mtE [0, 1, 2, 3] ?_))
         (cbv; repeat (refine ⟨an_, ?_⟩; cbv))
       · cbv
         obtain rfl := oj h
         refine hKn3 _ _ _ rfl (.nz (.mtE [0, 1, 2, 3] ?_))
         (cbv; repeat (refine ⟨an_, ?_⟩; cbv))
     obtain ⟨Limit12, rfl⟩ : ∃ z, z = t := ⟨_, rfl⟩
     cbv
     obtain rfl := oj h
     refine hKn2 _ _ _ rfl (.nz (.mtE [0, 1, 2, 3] ?_))
     (cbv; repeat (refine ⟨an_, ?_⟩; cbv))
   · cbv
     obtain rfl := oj h
     obtain rfl := hr2 _ rfl
     refine hKn1 _ _ _ rfl (.nz (.mtE [0, 2, 3] ?_))
     (cbv; repeat (refine ⟨an_, ?_⟩; cbv))
 obtain ⟨Limit9, rfl⟩ : ∃ z, z = t := ⟨_, rfl⟩
 cbv
 refine .g h (fun ((Price16, Num17, Den18, Num19, Den20) : Int × Int × Int × Int × Int) => [.top, .top, .ptr 0 0, .top, .ptr 1 0, .top, .top, oi deny2, .top, oi resale4, oi refund5, .ptr 2 0] ++ rp 139 .top) (fun ((Price16, Num17, Den18, Num19, Den20) : Int × Int × Int × Int × Int) => [.cells [.d (.sl (W eRule p.Rules))] 24, .cells [ob false, ob false, ob false, oi 0, oi 0, oi 0, oi 0, oi 0, oi 0, oi 0, oi 0, oi 0, oi 0, oi 0, oi 0, oi 0] 45, .cells [ob Allowed6, ob (io.le 0 v7), ob (io.le 0 v8), oi Limit9, oi Price16, oi Num17, oi Den18, oi Num19, oi Den20, oi 0, oi 1, oi 0, oi 1, oi 0, oi 1, oi allow1] 45]) (fun y hm Kn1 hKn1 => ?_) fun t h => ?_
 · have h := hm
   clear hm
   cbv
   refine brkG h ?_ ?_ <;> intro h
   · cbv
     refine .g h (fun _ => rfl) fun x21 h => ?_
     cbv
     refine .g h (fun _ => rfl) fun x22 h => ?_
     cbv
     refine .g h (fun _ => rfl) fun x23 h => ?_
     cbv
     obtain rfl := oj h
     refine hKn1 _ _ _ rfl (.nz (.mtE [0, 1, 2] ?_))
     (cbv; repeat (refine ⟨an_, ?_⟩; cbv))
   · cbv
     obtain rfl := oj h
     refine hKn1 _ _ _ rfl (.nz (.mtE [0, 1, 2] ?_))
     (cbv; repeat (refine ⟨an_, ?_⟩; cbv))
 obtain ⟨Price16, Num17, Den18, Num19, Den20⟩ := t
 cbv
 refine .g h (fun ((Num24, Den25, Num26, Den27) : Int × Int × Int × Int) => [.top, .top, .ptr 0 0, .top, .ptr 1 0, .top, .top, oi deny2, .top, .top, oi refund5, .ptr 2 0] ++ rp 139 .top) (fun ((Num24, Den25, Num26, Den27) : Int × Int × Int × Int) => [.cells [.d (.sl (W eRule p.Rules))] 24, .cells [ob false, ob false, ob false, oi 0, oi 0, oi 0, oi 0, oi 0, oi 0, oi 0, oi 0, oi 0, oi 0, oi 0, oi 0, oi 0] 45, .cells [ob Allowed6, ob (io.le 0 v7), ob (io.le 0 v8), oi Limit9, oi Price16, oi Num17, oi Den18, oi Num19, oi Den20, oi Num24, oi Den25, oi Num26, oi Den27, oi 0, oi 1, oi allow1] 45]) (fun y hm Kn1 hKn1 => ?_) fun t h => ?_
 · have h := hm
   clear hm
   cbv
   refine brkG h ?_ ?_ <;> intro h
   · cbv
     refine .g h (fun _ => rfl) fun x28 h => ?_
     cbv
     refine .g h (fun _ => rfl) fun x29 h => ?_
     cbv
     obtain rfl := oj h
     refine hKn1 _ _ _ rfl (.nz (.mtE [0, 1, 2] ?_))
     (cbv; repeat (refine ⟨an_, ?_⟩; cbv))
   · cbv
     obtain rfl := oj h
     refine hKn1 _ _ _ rfl (.nz (.mtE [0, 1, 2] ?_))
     (cbv; repeat (refine ⟨an_, ?_⟩; cbv))
 obtain ⟨Num24, Den25, Num26, Den27⟩ := t
 cbv
 refine .g h (fun ((Num30, Den31) : Int × Int) => rp 4 .top ++ [.ptr 0 0, .top, .top, oi deny2] ++ rp 3 .top ++ [.ptr 1 0] ++ rp 139 .top) (fun ((Num30, Den31) : Int × Int) => [.cells [ob false, ob false, ob false, oi 0, oi 0, oi 0, oi 0, oi 0, oi 0, oi 0, oi 0, oi 0, oi 0, oi 0, oi 0, oi 0] 45, .cells [ob Allowed6, ob (io.le 0 v7), ob (io.le 0 v8), oi Limit9, oi Price16, oi Num17, oi Den18, oi Num19, oi Den20, oi Num24, oi Den25, oi Num26, oi Den27, oi Num30, oi Den31, oi allow1] 45]) (fun y hm Kn1 hKn1 => ?_) fun t h => ?_
 · have h := hm
   clear hm
   cbv
   refine brkG h ?_ ?_ <;> intro h
   · cbv
     refine .g h (fun _ => rfl) fun x32 h => ?_
     cbv
     obtain rfl := oj h
     refine hKn1 _ _ _ rfl (.nz (.mtE [1, 2] ?_))
     (cbv; repeat (refine ⟨an_, ?_⟩; cbv))
   · cbv
     obtain rfl := oj h
     refine hKn1 _ _ _ rfl (.nz (.mtE [1, 2] ?_))
     (cbv; repeat (refine ⟨an_, ?_⟩; cbv))
 obtain ⟨Num30, Den31⟩ := t
 cbv
 refine .g h (fun (By33 : Int) => rp 4 .top ++ [.ptr 0 0] ++ rp 6 .top ++ [.ptr 1 0] ++ rp 139 .top) (fun (By33 : Int) => [.cells [ob false, ob false, ob false, oi 0, oi 0, oi 0, oi 0, oi 0, oi 0, oi 0, oi 0, oi 0, oi 0, oi 0, oi 0, oi 0] 45, .cells [ob Allowed6, ob (io.le 0 v7), ob (io.le 0 v8), oi Limit9, oi Price16, oi Num17, oi Den18, oi Num19, oi Den20, oi Num24, oi Den25, oi Num26, oi Den27, oi Num30, oi Den31, oi By33] 45]) (fun y hm Kn1 hKn1 => ?_) fun t h => ?_
 · have h := hm
   clear hm
   cbv
   refine brkG h ?_ ?_ <;> intro h
   · cbv
     obtain rfl := oj h
     refine hKn1 _ _ _ rfl (.nz (.mtE [0, 1] ?_))
     (cbv; repeat (refine ⟨an_, ?_⟩; cbv))
   · cbv
     obtain rfl := oj h
     refine hKn1 _ _ _ rfl (.nz (.mtE [0, 1] ?_))
     (cbv; repeat (refine ⟨an_, ?_⟩; cbv))
 obtain ⟨By33, rfl⟩ : ∃ z, z = t := ⟨_, rfl⟩
 cbv
 obtain rfl := oj h
 exact hK _ _ aw_
end Go.SX.Cl
namespace Go.SX.Cl
open Go Go.SX Go.Proofs
set_option maxRecDepth 100000
def c32r0 : List GOp := [
 gv 3 (.box 24 (.tmp 0)),
 gv 6 (.mv (.const (.bool false)))]
def c32r1 : List GOp := [
 gv 9 (.load 1 true (.tmp 3)),
 gv 10 (.mv (.tmp 1)),
 gv 11 (.call 19 [(.tmp 9), (.tmp 10)]),
 gv 7 (.alloc 24 (.agg #[(.slice none 0 0)])),
 ⟨none, .store 1 (.tmp 7) (.tmp 11), none⟩]
def c32r2 : List GOp := [
 gv 8 (.mv (.const (.int .i64 0)))]
def c32r3 : List GOp := [
 gv 12 (.mv (.tmp 8)),
 gv 13 (.mv (.tmp 2)),
 gv 14 (.len false (.tmp 13)),
 gv 15 (.bin .lss (.tmp 12) (.tmp 14))]
def c32r4 : List GOp := [
 gv 18 (.load 1 true (.tmp 3)),
 gv 19 (.mv (.tmp 2)),
 gv 20 (.mv (.tmp 8)),
 gv 21 (.idxA 10 (.tmp 19) (.tmp 20)),
 gv 22 (.load 10 true (.tmp 21)),
 gv 23 (.call 59 [(.tmp 18), (.tmp 22)]),
 gv 24 (.load 1 true (.tmp 7)),
 gv 25 (.mv (.tmp 2)),
 gv 26 (.mv (.tmp 8)),
 gv 27 (.idxA 10 (.tmp 25) (.tmp 26)),
 gv 28 (.load 10 true (.tmp 27)),
 gv 29 (.call 59 [(.tmp 24), (.tmp 28)]),
 gv 30 (.call 17 [(.tmp 23), (.tmp 29)]),
 gv 31 (.un .not (.tmp 30))]
def c32r5 : List GOp := [
 gv 6 (.mv (.const (.bool false)))]
def c32r6 : List GOp := [
 gv 16 (.mv (.tmp 8)),
 gv 17 (.bin .add (.tmp 16) (.const (.int .i64 1))),
 gv 8 (.mv (.tmp 17))]
def c32l7 : DE := .seq (.seq (.reg c32r3) (.cond (.tmp 15) (.skip) (.exit 0))) (.seq (.block 1 (.seq (.par false false false 11 c32r4) (.cond (.tmp 31) (.seq (.reg c32r5) (.ret)) (.skip)))) (.reg c32r6))
def c32r8 : List GOp := [
 gv 6 (.mv (.const (.bool true)))]
def c32 : EFn := ⟨32, .seq (.reg c32r0) (.seq (.reg c32r1) (.join (.seq (.reg c32r2) (.block 0 (.loop c32l7))) (.seq (.reg c32r8) (.ret)))), [.tmp 6]⟩
theorem c32_ok : compF Try.prog 32 = some c32.er := by kernel_rfl
noncomputable def ref16_Idle_l2 (all : (List (A10 Int))) (p : Policy) (v1 : Policy) : Int → Option ((Int) ⊕ ((Unit) ⊕ (Bool)))
 | i2 =>
 bif (io.lt i2 (io.len (W eA10Ii64 all))) then (
 Option.bind (idxG all i2) fun x3 =>
 Option.bind (ref13_Decide_g p x3) fun v4 =>
 Option.bind (idxG all i2) fun x5 =>
 Option.bind (ref13_Decide_g v1 x5) fun v6 =>
 Option.bind (ref13_Like_g v4 v6) fun v7 =>
 bif (io.not v7) then (
 some (.inr (.inr false))
 ) else (
 some (.inl (io.ar .add .i64 i2 1))
 )
 ) else (
 some (.inr (.inl ()))
 )
noncomputable def ref16_Idle_g (p : Policy) (a : Int) (all : (List (A10 Int))) : Option (Bool) :=
 Option.bind (ref16_Without_g p a) fun v1 =>
 orR (
 whileG (ref16_Idle_l2 all p v1) 0
 ) fun _ =>
 some true
set_option maxHeartbeats 4000000 in
theorem ref16_Idle_R {P : Program} (hP : P = Try.prog) (p : Policy) (a : Int) (all : (List (A10 Int))) (r : Bool) (h : ref16_Idle_g p a all = some r) : Fn1 P 32 [vPolicy p, vIi64 a, vLA10Ii64 all] (vB r) := by
 refine .walkE (hP ▸ c32_ok) fun K hK => ?_
 unfold ref16_Idle_g at h
 cbv
 refine .g h (fun v hv => ref16_Without_R hP _ _ v hv) aw_ rfl (fun _ => rfl) fun v1 h => ?_
 cbv
 refine .ga h (fun (_ : Unit) => rp 32 .top) (fun (_ : Unit) => []) (fun y hm hr1 Kn1 hKn1 => ?_) fun t h => ?_
 · have h := hm
   clear hm
   cbv
   refine .g h (fun (i2 : Int) => [.top, .top, .d (.sl (W eA10Ii64 all)), .ptr 0 0] ++ rp 3 .top ++ [.ptr 1 0, oi i2] ++ rp 23 .top) (fun (i2 : Int) => [.cells [.d (.sl (W eRule p.Rules))] 24, .cells [.d (.sl (W eRule v1.Rules))] 24]) (.nz (.mtE [0, 1] ?_)) fun s x h hr2 Kn2 hKn2 => ?_
   · (cbv; repeat (refine ⟨an_, ?_⟩; cbv))
   unfold ref16_Idle_l2 at h
   obtain ⟨i2, rfl⟩ : ∃ z, z = s := ⟨_, rfl⟩
   cbv
   refine brkG h ?_ ?_ <;> intro h
   · cbv
     refine .g h (fun _ => rfl) fun x3 h => ?_
     cbv
     refine .g h (fun v hv => ref13_Decide_R hP _ _ v hv) aw_ rfl (fun _ => rfl) fun v4 h => ?_
     cbv
     refine .g h (fun _ => rfl) fun x5 h => ?_
     cbv
     refine .g h (fun v hv => ref13_Decide_R hP _ _ v hv) aw_ rfl (fun _ => rfl) fun v6 h => ?_
     cbv
     refine .g h (fun v hv => ref13_Like_R hP _ _ v hv) aw_ rfl (fun _ => rfl) fun v7 h => ?_
     cbv
     refine brkG h ?_ ?_ <;> intro h
     · cbv
       obtain rfl := oj h
       obtain rfl := hr2 _ rfl
       obtain rfl := hr1 _ rfl
       exact hK _ _ aw_
     · cbv
       obtain rfl := oj h
       refine hKn2 _ _ _ rfl (.nz (.mtE [0, 1] ?_))
       (cbv; repeat (refine ⟨an_, ?_⟩; cbv))
   · cbv
     obtain rfl := oj h
     obtain rfl := hr2 _ rfl
     refine hKn1 _ _ _ rfl (.nz (.mtE [] ?_))
     (cbv; repeat (refine ⟨an_, ?_⟩; cbv))
 cbv
 obtain rfl := oj h
 exact hK _ _ aw_
end Go.SX.Cl
namespace Go.SX.Cl
open Go Go.SX Go.Proofs
set_option maxRecDepth 100000
def c33r0 : List GOp := [
 gv 4 (.box 24 (.tmp 0)),
 gv 8 (.alloc 32 (.agg #[oz, oz, oz, oz, oz, oz, oz, oz, oz, oz])),
 gv 9 (.mv (.const (.bool false)))]
def c33r1 : List GOp := [
 gv 10 (.mv (.const (.int .i64 0)))]
def c33r2 : List GOp := [
 gv 11 (.mv (.tmp 10)),
 gv 12 (.mv (.tmp 3)),
 gv 13 (.len false (.tmp 12)),
 gv 14 (.bin .lss (.tmp 11) (.tmp 13))]
def c33r3 : List GOp := [
 gv 17 (.fadd 0 (.tmp 4)),
 gv 18 (.load 1 false (.tmp 17)),
 gv 19 (.mv (.tmp 1)),
 gv 20 (.idxA 8 (.tmp 18) (.tmp 19)),
 gv 21 (.load 8 true (.tmp 20)),
 gv 22 (.mv (.tmp 3)),
 gv 23 (.mv (.tmp 10)),
 gv 24 (.idxA 10 (.tmp 22) (.tmp 23)),
 gv 25 (.load 10 true (.tmp 24)),
 gv 26 (.call 60 [(.tmp 21), (.tmp 25)]),
 gv 27 (.mv (.tmp 26)),
 gw 28 27 true (.fadd 0 (.tmp 4)),
 gw 29 27 true (.load 1 false (.tmp 28)),
 gw 30 27 true (.mv (.tmp 2)),
 gw 31 27 true (.idxA 8 (.tmp 29) (.tmp 30)),
 gw 32 27 true (.load 8 true (.tmp 31)),
 gw 33 27 true (.mv (.tmp 3)),
 gw 34 27 true (.mv (.tmp 10)),
 gw 35 27 true (.idxA 10 (.tmp 33) (.tmp 34)),
 gw 36 27 true (.load 10 true (.tmp 35)),
 gw 37 27 true (.call 60 [(.tmp 32), (.tmp 36)]),
 gv 38 (.pick (.tmp 27) (.tmp 37) (.const (.bool false)))]
def c33r4 : List GOp := [
 gv 39 (.mv (.tmp 3)),
 gv 40 (.mv (.tmp 10)),
 gv 41 (.idxA 10 (.tmp 39) (.tmp 40)),
 gv 42 (.load 10 true (.tmp 41)),
 ⟨none, .store 10 (.tmp 8) (.tmp 42), none⟩,
 gv 9 (.mv (.const (.bool true)))]
def c33r5 : List GOp := [
 gv 15 (.mv (.tmp 10)),
 gv 16 (.bin .add (.tmp 15) (.const (.int .i64 1))),
 gv 10 (.mv (.tmp 16))]
def c33l6 : DE := .seq (.seq (.reg c33r2) (.cond (.tmp 14) (.skip) (.exit 0))) (.seq (.block 1 (.join (.par false false false 20 c33r3) (.cond (.tmp 38) (.seq (.reg c33r4) (.ret)) (.skip)))) (.reg c33r5))
def c33r7 : List GOp := [
 gv 43 (.build (.agg #[oz, oz, oz, oz, oz, oz, oz, oz, oz, oz]) []),
 ⟨none, .store 10 (.tmp 8) (.tmp 43), none⟩,
 gv 9 (.mv (.const (.bool false)))]
def c33 : EFn := ⟨44, .seq (.reg c33r0) (.join (.seq (.reg c33r1) (.block 0 (.loop c33l6))) (.seq (.reg c33r7) (.ret))), [.cell 8 10 true, .tmp 9]⟩
theorem c33_ok : compF Try.prog 33 = some c33.er := by kernel_rfl
noncomputable def ref16_First_l2 (all : (List (A10 Int))) (p : Policy) (a : Int) (b : Int) : Int → Option ((Int) ⊕ ((Unit) ⊕ ((A10 Int) × Bool)))
 | i1 =>
 bif (io.lt i1 (io.len (W eA10Ii64 all))) then (
 Option.bind (
 Option.bind (idxG p.Rules a) fun x3 =>
 Option.bind (idxG all i1) fun x4 =>
 Option.bind (ref13_Holds_g x3 x4) fun v5 =>
 bif v5 then (
 Option.bind (idxG p.Rules b) fun x6 =>
 Option.bind (idxG all i1) fun x7 =>
 Option.bind (ref13_Holds_g x6 x7) fun v8 =>
 some v8
 ) else (
 some false
 )
 ) fun v2 =>
 bif v2 then (
 Option.bind (idxG all i1) fun x9 =>
 some (.inr (.inr (x9, true)))
 ) else (
 some (.inl (io.ar .add .i64 i1 1))
 )
 ) else (
 some (.inr (.inl ()))
 )
noncomputable def ref16_First_g (p : Policy) (a : Int) (b : Int) (all : (List (A10 Int))) : Option ((A10 Int) × Bool) :=
 orR (
 whileG (ref16_First_l2 all p a b) 0
 ) fun _ =>
 some ((A10.mk 0 0 0 0 0 0 0 0 0 0), false)
set_option maxHeartbeats 4000000 in
theorem ref16_First_R {P : Program} (hP : P = Try.prog) (p : Policy) (a : Int) (b : Int) (all : (List (A10 Int))) (r : (A10 Int) × Bool) (h : ref16_First_g p a b all = some r) : Fn1 P 33 [vPolicy p, vIi64 a, vIi64 b, vLA10Ii64 all] (.tup [vA10Ii64 r.1, vB r.2]) := by
 refine .walkE (hP ▸ c33_ok) fun K hK => ?_
 unfold ref16_First_g at h
 cbv
 refine .ga h (fun (_ : Unit) => rp 8 .top ++ [.ptr 0 0] ++ rp 35 .top) (fun (_ : Unit) => [.cells [oi 0, oi 0, oi 0, oi 0, oi 0, oi 0, oi 0, oi 0, oi 0, oi 0] 32]) (fun y hm hr1 Kn1 hKn1 => ?_) fun t h => ?_
 · have h := hm
   clear hm
   cbv
   refine .g h (fun (i1 : Int) => [.top, oi a, oi b, .d (.sl (W eA10Ii64 all)), .ptr 0 0] ++ rp 3 .top ++ [.ptr 1 0, .top, oi i1] ++ rp 33 .top) (fun (i1 : Int) => [.cells [.d (.sl (W eRule p.Rules))] 24, .cells [oi 0, oi 0, oi 0, oi 0, oi 0, oi 0, oi 0, oi 0, oi 0, oi 0] 32]) (.nz (.mtE [0, 1] ?_)) fun s x h hr2 Kn2 hKn2 => ?_
   · (cbv; repeat (refine ⟨an_, ?_⟩; cbv))
   unfold ref16_First_l2 at h
   obtain ⟨i1, rfl⟩ : ∃ z, z = s := ⟨_, rfl⟩
   cbv
   refine brkG h ?_ ?_ <;> intro h
   · cbv
     refine .g h (fun (v2 : Bool) => [.top, oi a, oi b, .d (.sl (W eA10Ii64 all)), .ptr 0 0] ++ rp 3 .top ++ [.ptr 1 0, .top, oi i1] ++ rp 27 .top ++ [ob v2] ++ rp 5 .top) (fun (v2 : Bool) => [.cells [.d (.sl (W eRule p.Rules))] 24, .cells [oi 0, oi 0, oi 0, oi 0, oi 0, oi 0, oi 0, oi 0, oi 0, oi 0] 32]) (fun y hm Kn3 hKn3 => ?_) fun t h => ?_
     · have h := hm
       clear hm
       cbv
       refine .g h (fun _ => rfl) fun x3 h => ?_
       cbv
       refine .g h (fun _ => rfl) fun x4 h => ?_
       cbv
       refine .g h (fun v hv => ref13_Holds_R hP _ _ v hv) aw_ rfl (fun _ => rfl) fun v5 h => ?_
       cbv
       refine brkG h ?_ ?_ <;> intro h
       · cbv
         refine .g h (fun _ => rfl) fun x6 h => ?_
         cbv
         refine .g h (fun _ => rfl) fun x7 h => ?_
         cbv
         refine .g h (fun v hv => ref13_Holds_R hP _ _ v hv) aw_ rfl (fun _ => rfl) fun v8 h => ?_
         cbv
         obtain rfl := oj h
         refine hKn3 _ _ _ rfl (.nz (.mtE [0, 1] ?_))
         (cbv; repeat (refine ⟨an_, ?_⟩; cbv))
       · cbv
         obtain rfl := oj h
         refine hKn3 _ _ _ rfl (.nz (.mtE [0, 1] ?_))
         (cbv; repeat (refine ⟨an_, ?_⟩; cbv))
     obtain ⟨v2, rfl⟩ : ∃ z, z = t := ⟨_, rfl⟩
     cbv
     refine brkG h ?_ ?_ <;> intro h
     · cbv
       refine .g h (fun _ => rfl) fun x9 h => ?_
       cbv
       obtain rfl := oj h
       obtain rfl := hr2 _ rfl
       obtain rfl := hr1 _ rfl
       exact hK _ _ aw_
     · cbv
       obtain rfl := oj h
       refine hKn2 _ _ _ rfl (.nz (.mtE [0, 1] ?_))
       (cbv; repeat (refine ⟨an_, ?_⟩; cbv))
   · cbv
     obtain rfl := oj h
     obtain rfl := hr2 _ rfl
     refine hKn1 _ _ _ rfl (.nz (.mtE [1] ?_))
     (cbv; repeat (refine ⟨an_, ?_⟩; cbv))
 cbv
 obtain rfl := oj h
 exact hK _ _ aw_
end Go.SX.Cl
