/- Parts of the proof. -/
import Derived.Test.YtllbabjgpdmblaaDoorZTdT
import Derived.Test.YtllbabjgpdmblaaDoorZTd19
import Derived.Test.YtllbabjgpdmblaaDoorZTd17
import Derived.Test.YtllbabjgpdmblaaDoorZTd22
import Derived.Test.YtllbabjgpdmblaaDoorZTd24
import Derived.Test.YtllbabjgpdmblaaDoorZTd49d
set_option linter.unusedSimpArgs false
set_option linter.unusedVariables false
set_option linter.unusedSectionVars false
namespace Go.SX.Td
open Go Go.SX Go.Proofs
set_option maxRecDepth 100000
def c8r0 : List GOp := [
 gv 3 (.box 24 (.tmp 0)),
 gv 6 (.mv (.const (.bool false)))]
def c8r1 : List GOp := [
 gv 18 (.call 22 []),
 gv 7 (.mv (.tmp 18))]
def c8r2 : List GOp := [
 gv 19 (.load 1 true (.tmp 3)),
 gv 20 (.call 23 [(.tmp 19)]),
 gv 21 (.un .not (.tmp 20)),
 gv 22 (.mv (.tmp 21)),
 gw 23 22 false (.mv (.tmp 1)),
 gw 24 22 false (.len false (.tmp 23)),
 gw 25 22 false (.bin .gtr (.tmp 24) (.const (.int .i64 20))),
 gv 26 (.pick (.tmp 22) (.const (.bool true)) (.tmp 25))]
def c8r3 : List GOp := [
 gv 27 (.mv (.tmp 7)),
 gv 6 (.mv (.tmp 27))]
def c8r4 : List GOp := [
 gv 29 (.load 1 true (.tmp 3)),
 gv 30 (.call 24 [(.tmp 29)]),
 gv 28 (.mv (.tmp 30)),
 gv 31 (.ext (.tmp 28) 0),
 gv 32 (.ext (.tmp 28) 1),
 gv 8 (.alloc 28 (.agg #[(.slice none 0 0), (.slice none 0 0)])),
 ⟨none, .store 2 (.tmp 8) (.tmp 31), none⟩,
 gv 9 (.mv (.tmp 32))]
def c8r5 : List GOp := [
 gv 33 (.mv (.tmp 9)),
 gv 34 (.bin .neq (.tmp 33) (.const (.int .i64 0)))]
def c8r6 : List GOp := [
 gv 35 (.mv (.tmp 7)),
 gv 6 (.mv (.tmp 35))]
def c8r7 : List GOp := [
 gv 36 (.call 26 []),
 gv 10 (.alloc 57 (.agg #[oz, oz, oz, oz, oz, oz, oz, oz, oz, oz, oz, oz, oz, oz, oz, oz, oz, oz, oz, oz])),
 ⟨none, .store 20 (.tmp 10) (.tmp 36), none⟩]
def c8r8 : List GOp := [
 gv 11 (.mv (.const (.int .i64 0)))]
def c8r9 : List GOp := [
 gv 12 (.mv (.const (.int .i64 0)))]
def c8r10 : List GOp := [
 gv 37 (.mv (.tmp 12)),
 gv 38 (.bin .leq (.tmp 37) (.const (.int .i64 10)))]
def c8r11 : List GOp := [
 gv 41 (.mv (.tmp 11)),
 gv 42 (.bin .lss (.tmp 41) (.const (.int .i64 0))),
 gv 43 (.mv (.tmp 42)),
 gw 44 43 false (.mv (.tmp 11)),
 gw 45 43 false (.fadd 0 (.tmp 8)),
 gw 46 43 false (.load 1 false (.tmp 45)),
 gw 47 43 false (.len false (.tmp 46)),
 gw 48 43 false (.bin .geq (.tmp 44) (.tmp 47)),
 gv 49 (.pick (.tmp 43) (.const (.bool true)) (.tmp 48))]
def c8r12 : List GOp := [
 gv 6 (.mv (.const (.bool false)))]
def c8r13 : List GOp := [
 gv 50 (.fadd 0 (.tmp 8)),
 gv 51 (.load 1 false (.tmp 50)),
 gv 52 (.mv (.tmp 11)),
 gv 53 (.idxA 4 (.tmp 51) (.tmp 52)),
 gv 54 (.load 4 true (.tmp 53)),
 gv 13 (.alloc 64 (.agg #[oz, (.slice none 0 0), (.slice none 0 0), oz])),
 ⟨none, .store 4 (.tmp 13) (.tmp 54), none⟩]
def c8r14 : List GOp := [
 gv 55 (.fadd 2 (.tmp 13)),
 gv 56 (.load 1 false (.tmp 55)),
 gv 57 (.len false (.tmp 56)),
 gv 58 (.bin .eql (.tmp 57) (.const (.int .i64 0)))]
def c8r15 : List GOp := [
 gv 59 (.mv (.tmp 12)),
 gv 60 (.bin .eql (.tmp 59) (.const (.int .i64 10))),
 gv 61 (.mv (.tmp 60)),
 gw 62 61 false (.fadd 0 (.tmp 13)),
 gw 63 61 false (.load 1 false (.tmp 62)),
 gw 64 61 false (.bin .lss (.tmp 63) (.const (.int .i64 0))),
 gv 65 (.pick (.tmp 61) (.const (.bool true)) (.tmp 64)),
 gv 66 (.mv (.tmp 65)),
 gw 67 66 false (.fadd 0 (.tmp 13)),
 gw 68 66 false (.load 1 false (.tmp 67)),
 gw 69 66 false (.bin .geq (.tmp 68) (.const (.int .i64 10))),
 gv 70 (.pick (.tmp 66) (.const (.bool true)) (.tmp 69)),
 gv 71 (.mv (.tmp 70)),
 gw 72 71 false (.fadd 1 (.tmp 13)),
 gw 73 71 false (.load 1 false (.tmp 72)),
 gw 74 71 false (.len false (.tmp 73)),
 gw 75 71 false (.bin .add (.tmp 74) (.const (.int .i64 1))),
 gw 76 71 false (.fadd 2 (.tmp 13)),
 gw 77 71 false (.load 1 false (.tmp 76)),
 gw 78 71 false (.len false (.tmp 77)),
 gw 79 71 false (.bin .neq (.tmp 75) (.tmp 78)),
 gv 80 (.pick (.tmp 71) (.const (.bool true)) (.tmp 79))]
def c8r16 : List GOp := [
 gv 6 (.mv (.const (.bool false)))]
def c8r17 : List GOp := [
 gv 14 (.mv (.const (.int .i64 0)))]
def c8r18 : List GOp := [
 gv 81 (.mv (.tmp 12)),
 gv 82 (.mv (.tmp 1)),
 gv 83 (.len false (.tmp 82)),
 gv 84 (.bin .lss (.tmp 81) (.tmp 83))]
def c8r19 : List GOp := [
 gv 85 (.mv (.tmp 1)),
 gv 86 (.mv (.tmp 12)),
 gv 87 (.idxA 1 (.tmp 85) (.tmp 86)),
 gv 88 (.load 1 false (.tmp 87)),
 gv 89 (.cvi .i64 (.tmp 88)),
 gv 90 (.fadd 2 (.tmp 13)),
 gv 91 (.load 1 false (.tmp 90)),
 gv 92 (.len false (.tmp 91)),
 gv 93 (.div .rem (.tmp 89) (.tmp 92)),
 gv 14 (.mv (.tmp 93))]
def c8r20 : List GOp := [
 gv 94 (.mv (.tmp 14)),
 gv 95 (.bin .gtr (.tmp 94) (.const (.int .i64 0)))]
def c8r21 : List GOp := [
 gv 96 (.fadd 0 (.tmp 13)),
 gv 97 (.load 1 false (.tmp 96)),
 gv 98 (.fadd 0 (.tmp 13)),
 gv 99 (.load 1 false (.tmp 98)),
 gv 100 (.idxP 10 2 (.tmp 10) (.tmp 99)),
 gv 101 (.fadd 0 (.tmp 100)),
 gv 102 (.load 1 false (.tmp 101)),
 gv 103 (.fadd 1 (.tmp 13)),
 gv 104 (.load 1 false (.tmp 103)),
 gv 105 (.mv (.tmp 14)),
 gv 106 (.bin .sub (.tmp 105) (.const (.int .i64 1))),
 gv 107 (.idxA 1 (.tmp 104) (.tmp 106)),
 gv 108 (.load 1 false (.tmp 107)),
 gv 109 (.mm true (.tmp 102) [(.tmp 108)]),
 gv 110 (.idxP 10 2 (.tmp 10) (.tmp 97)),
 gv 111 (.fadd 0 (.tmp 110))]
def c8r21z : GOp := ⟨none, .store 1 (.tmp 111) (.tmp 109), none⟩
def c8r22 : List GOp := [
 gv 112 (.mv (.tmp 14)),
 gv 113 (.fadd 1 (.tmp 13)),
 gv 114 (.load 1 false (.tmp 113)),
 gv 115 (.len false (.tmp 114)),
 gv 116 (.bin .lss (.tmp 112) (.tmp 115))]
def c8r23 : List GOp := [
 gv 117 (.fadd 0 (.tmp 13)),
 gv 118 (.load 1 false (.tmp 117)),
 gv 119 (.fadd 0 (.tmp 13)),
 gv 120 (.load 1 false (.tmp 119)),
 gv 121 (.idxP 10 2 (.tmp 10) (.tmp 120)),
 gv 122 (.fadd 1 (.tmp 121)),
 gv 123 (.load 1 false (.tmp 122)),
 gv 124 (.fadd 1 (.tmp 13)),
 gv 125 (.load 1 false (.tmp 124)),
 gv 126 (.mv (.tmp 14)),
 gv 127 (.idxA 1 (.tmp 125) (.tmp 126)),
 gv 128 (.load 1 false (.tmp 127)),
 gv 129 (.bin .sub (.tmp 128) (.const (.int .i64 1))),
 gv 130 (.mm false (.tmp 123) [(.tmp 129)]),
 gv 131 (.idxP 10 2 (.tmp 10) (.tmp 118)),
 gv 132 (.fadd 1 (.tmp 131))]
def c8r23z : GOp := ⟨none, .store 1 (.tmp 132) (.tmp 130), none⟩
def c8r24 : List GOp := [
 gv 133 (.fadd 2 (.tmp 13)),
 gv 134 (.load 1 false (.tmp 133)),
 gv 135 (.mv (.tmp 14)),
 gv 136 (.idxA 1 (.tmp 134) (.tmp 135)),
 gv 137 (.load 1 false (.tmp 136)),
 gv 11 (.mv (.tmp 137))]
def c8r25 : List GOp := [
 gv 39 (.mv (.tmp 12)),
 gv 40 (.bin .add (.tmp 39) (.const (.int .i64 1))),
 gv 12 (.mv (.tmp 40))]
def c8l26 : DE := .seq (.seq (.reg c8r10) (.cond (.tmp 38) (.skip) (.exit 0))) (.seq (.block 1 (.seq (.join (.reg c8r11) (.cond (.tmp 49) (.seq (.reg c8r12) (.ret)) (.skip))) (.seq (.reg c8r13) (.seq (.seq (.reg c8r14) (.cond (.tmp 58) (.exit 0) (.skip))) (.seq (.join (.reg c8r15) (.cond (.tmp 80) (.seq (.reg c8r16) (.ret)) (.skip))) (.seq (.reg c8r17) (.join (.seq (.reg c8r18) (.cond (.tmp 84) (.par true true true 8 c8r19) (.skip))) (.join (.seq (.reg c8r20) (.cond (.tmp 95) (.hyl true true 14 c8r21 c8r21z) (.skip))) (.join (.seq (.reg c8r22) (.cond (.tmp 116) (.hyl true true 14 c8r23 c8r23z) (.skip))) (.reg c8r24)))))))))) (.reg c8r25))
def c8r27 : List GOp := [
 gv 15 (.alloc 38 (.agg #[oz, oz, oz, oz, oz, oz, oz, oz, oz, oz]))]
def c8r28 : List GOp := [
 gv 16 (.mv (.const (.int .i64 0)))]
def c8r29 : List GOp := [
 gv 138 (.mv (.tmp 16)),
 gv 139 (.bin .lss (.tmp 138) (.const (.int .i64 10)))]
def c8r30 : List GOp := [
 gv 142 (.mv (.tmp 16)),
 gv 143 (.idxP 10 2 (.tmp 10) (.tmp 142)),
 gv 144 (.fadd 0 (.tmp 143)),
 gv 145 (.load 1 false (.tmp 144)),
 gv 146 (.mv (.tmp 16)),
 gv 147 (.idxP 10 2 (.tmp 10) (.tmp 146)),
 gv 148 (.fadd 1 (.tmp 147)),
 gv 149 (.load 1 false (.tmp 148)),
 gv 150 (.bin .gtr (.tmp 145) (.tmp 149))]
def c8r31 : List GOp := [
 gv 6 (.mv (.const (.bool false)))]
def c8r32 : List GOp := [
 gv 151 (.mv (.tmp 16)),
 gv 152 (.mv (.tmp 16)),
 gv 153 (.idxP 10 2 (.tmp 10) (.tmp 152)),
 gv 154 (.fadd 0 (.tmp 153)),
 gv 155 (.load 1 false (.tmp 154)),
 gv 156 (.idxP 10 1 (.tmp 15) (.tmp 151)),
 ⟨none, .store 1 (.tmp 156) (.tmp 155), none⟩]
def c8r33 : List GOp := [
 gv 157 (.mv (.tmp 2))]
def c8r34 : List GOp := [
 gv 158 (.mv (.tmp 16)),
 gv 159 (.mv (.tmp 16)),
 gv 160 (.idxP 10 2 (.tmp 10) (.tmp 159)),
 gv 161 (.fadd 1 (.tmp 160)),
 gv 162 (.load 1 false (.tmp 161)),
 gv 163 (.idxP 10 1 (.tmp 15) (.tmp 158)),
 ⟨none, .store 1 (.tmp 163) (.tmp 162), none⟩]
def c8r35 : List GOp := [
 gv 140 (.mv (.tmp 16)),
 gv 141 (.bin .add (.tmp 140) (.const (.int .i64 1))),
 gv 16 (.mv (.tmp 141))]
def c8l36 : DE := .seq (.seq (.reg c8r29) (.cond (.tmp 139) (.skip) (.exit 2))) (.join (.block 3 (.seq (.join (.par true true true 8 c8r30) (.cond (.tmp 150) (.seq (.reg c8r31) (.ret)) (.skip))) (.join (.reg c8r32) (.seq (.reg c8r33) (.cond (.tmp 157) (.reg c8r34) (.skip)))))) (.reg c8r35))
def c8r37 : List GOp := [
 gv 164 (.fadd 0 (.tmp 8)),
 gv 165 (.load 1 false (.tmp 164)),
 gv 166 (.mv (.tmp 11)),
 gv 167 (.idxA 4 (.tmp 165) (.tmp 166)),
 gv 168 (.load 4 true (.tmp 167)),
 gv 17 (.alloc 64 (.agg #[oz, (.slice none 0 0), (.slice none 0 0), oz])),
 ⟨none, .store 4 (.tmp 17) (.tmp 168), none⟩]
def c8r38 : List GOp := [
 gv 169 (.mv (.tmp 7)),
 gv 170 (.mv (.tmp 169)),
 gw 171 170 true (.fadd 3 (.tmp 17)),
 gw 172 170 true (.load 1 false (.tmp 171)),
 gw 173 170 true (.bin .geq (.tmp 172) (.const (.int .i64 0))),
 gv 174 (.pick (.tmp 170) (.tmp 173) (.const (.bool false))),
 gv 175 (.mv (.tmp 174)),
 gw 176 175 true (.fadd 3 (.tmp 17)),
 gw 177 175 true (.load 1 false (.tmp 176)),
 gw 178 175 true (.fadd 1 (.tmp 8)),
 gw 179 175 true (.load 1 false (.tmp 178)),
 gw 180 175 true (.len false (.tmp 179)),
 gw 181 175 true (.bin .lss (.tmp 177) (.tmp 180)),
 gv 182 (.pick (.tmp 175) (.tmp 181) (.const (.bool false))),
 gv 183 (.mv (.tmp 182)),
 gw 184 183 true (.load 1 true (.tmp 3)),
 gw 185 183 true (.load 10 true (.tmp 15)),
 gw 186 183 true (.call 19 [(.tmp 184), (.tmp 185)]),
 gw 187 183 true (.fadd 1 (.tmp 8)),
 gw 188 183 true (.load 1 false (.tmp 187)),
 gw 189 183 true (.fadd 3 (.tmp 17)),
 gw 190 183 true (.load 1 false (.tmp 189)),
 gw 191 183 true (.idxA 16 (.tmp 188) (.tmp 190)),
 gw 192 183 true (.load 16 true (.tmp 191)),
 gw 193 183 true (.beq false [.bool, .bool, .bool, .int, .int, .int, .int, .int, .int, .int, .int, .int, .int, .int, .int, .int] (.tmp 186) (.tmp 192)),
 gv 194 (.pick (.tmp 183) (.tmp 193) (.const (.bool false))),
 gv 195 (.mv (.tmp 194)),
 gw 196 195 true (.load 2 true (.tmp 8)),
 gw 197 195 true (.load 10 true (.tmp 15)),
 gw 198 195 true (.call 20 [(.tmp 196), (.tmp 197)]),
 gw 199 195 true (.fadd 1 (.tmp 8)),
 gw 200 195 true (.load 1 false (.tmp 199)),
 gw 201 195 true (.fadd 3 (.tmp 17)),
 gw 202 195 true (.load 1 false (.tmp 201)),
 gw 203 195 true (.idxA 16 (.tmp 200) (.tmp 202)),
 gw 204 195 true (.load 16 true (.tmp 203)),
 gw 205 195 true (.beq false [.bool, .bool, .bool, .int, .int, .int, .int, .int, .int, .int, .int, .int, .int, .int, .int, .int] (.tmp 198) (.tmp 204)),
 gv 206 (.pick (.tmp 195) (.tmp 205) (.const (.bool false))),
 gv 6 (.mv (.tmp 206))]
def c8 : EFn := ⟨207, .seq (.reg c8r0) (.seq (.reg c8r1) (.seq (.join (.reg c8r2) (.cond (.tmp 26) (.seq (.reg c8r3) (.ret)) (.skip))) (.seq (.reg c8r4) (.seq (.seq (.reg c8r5) (.cond (.tmp 34) (.seq (.reg c8r6) (.ret)) (.skip))) (.seq (.reg c8r7) (.seq (.reg c8r8) (.join (.seq (.reg c8r9) (.block 0 (.loop c8l26))) (.seq (.reg c8r27) (.join (.seq (.reg c8r28) (.block 2 (.loop c8l36))) (.seq (.reg c8r37) (.seq (.par false false false 36 c8r38) (.ret)))))))))))), [.tmp 6]⟩
theorem c8_ok : compF Tryd.prog 8 = some c8.er := by kernel_rfl
set_option maxHeartbeats 4000000 in
theorem law14_TableLeaves_R {P : Program} (hP : P = Tryd.prog) (p : Policy) (choices : (List Int)) (high : Bool) (r : Bool) (h : law14_TableLeaves_g p choices high = some r) : Fn1 P 8 [vPolicy p, vLIu8 choices, vB high] (vB r) := by
 refine .walkE (hP ▸ c8_ok) fun K hK => ?_;unfold law14_TableLeaves_g at h;cbv;refine .g h (fun v hv => law14_head_R hP v hv) aw_ rfl (fun _ => rfl) fun up1 h => ?_;cbv;refine .g h (fun (v2 : Bool) => [.top, .d (.sl (W eIu8 choices)), ob high, .ptr 0 0] ++ rp 3 .top ++ [ob up1] ++ rp 18 .top ++ [ob v2] ++ rp 180 .top) (fun v2 => [.cells [.d (.sl (W eRule p.Rules))] 24]) (fun y hm Kn1 hKn1 => ?_) fun t h => ?_
 ·have h := hm;clear hm;cbv;refine .g h (fun v hv => ref14_Few_R hP _ v hv) aw_ rfl (fun _ => rfl) fun v3 h => ?_;cbv;refine brkG h ?_ ?_ <;> intro h
  ·cbv;obtain rfl := oj h;refine hKn1 _ _ _ rfl (.nz (.mtE [0] ?_));(cbv; repeat (refine ⟨an_, ?_⟩; cbv))
  ·cbv;obtain rfl := oj h;refine hKn1 _ _ _ rfl (.nz (.mtE [0] ?_));(cbv; repeat (refine ⟨an_, ?_⟩; cbv))
 obtain ⟨v2, rfl⟩ := ez t;cbv;refine brkG h ?_ ?_ <;> intro h
 ·cbv;obtain rfl := oj h;exact hK _ _ aw_
 ·cbv;refine .g h (fun v hv => table_Build_R hP _ v hv) aw_ rfl (fun _ => rfl) fun v4 h => ?_;cbv;refine brkG h ?_ ?_ <;> intro h
  ·cbv;obtain rfl := oj h;exact hK _ _ aw_
  ·cbv;refine .g h (fun v hv => resolve_Limits_R hP v hv) aw_ rfl (fun _ => rfl) fun v5 h => ?_;cbv;refine .ga h (fun ((z6, at7) : (A10 Range) × Int) => [.top, .top, ob high, .ptr 0 0] ++ rp 3 .top ++ [ob up1, .ptr 1 0, .top, .ptr 2 0, oi at7] ++ rp 195 .top) (fun (z6, at7) => [.cells [.d (.sl (W eRule p.Rules))] 24, .cells [.d (.sl (W eNode v4.1.Nodes)), .d (.sl (W eDecision v4.1.Leaves))] 28, .cells (cR z6) 57]) (fun y hm hr1 Kn1 hKn1 => ?_) fun t h => ?_
   ·have h := hm;clear hm;cbv;refine .g h (fun ((z8, at9, i10) : (A10 Range) × Int × Int) => [.top, .d (.sl (W eIu8 choices)), ob high, .ptr 0 0] ++ rp 3 .top ++ [ob up1, .ptr 1 0, .top, .ptr 2 0, oi at9, oi i10] ++ rp 194 .top) (fun (z8, at9, i10) => [.cells [.d (.sl (W eRule p.Rules))] 24, .cells [.d (.sl (W eNode v4.1.Nodes)), .d (.sl (W eDecision v4.1.Leaves))] 28, .cells (cR z8) 57]) (.nz (.mtE [0, 1, 2] ?_)) fun s x h hr2 Kn2 hKn2 => ?_
    ·(cbv; repeat (refine ⟨an_, ?_⟩; cbv))
    unfold law14_TableLeaves_l2 at h;obtain ⟨z8, at9, i10⟩ := s;cbv;refine brkG h ?_ ?_ <;> intro h
    ·cbv;refine .g h (fun (v11 : Bool) => [.top, .d (.sl (W eIu8 choices)), ob high, .ptr 0 0] ++ rp 3 .top ++ [ob up1, .ptr 1 0, .top, .ptr 2 0, oi at9, oi i10] ++ rp 36 .top ++ [ob v11] ++ rp 157 .top) (fun v11 => [.cells [.d (.sl (W eRule p.Rules))] 24, .cells [.d (.sl (W eNode v4.1.Nodes)), .d (.sl (W eDecision v4.1.Leaves))] 28, .cells (cR z8) 57]) (fun y hm Kn3 hKn3 => ?_) fun t h => ?_
     ·have h := hm;clear hm;cbv;refine brkG h ?_ ?_ <;> intro h
      ·cbv;obtain rfl := oj h;refine hKn3 _ _ _ rfl (.nz (.mtE [0, 1, 2] ?_));(cbv; repeat (refine ⟨an_, ?_⟩; cbv))
      ·cbv;obtain rfl := oj h;refine hKn3 _ _ _ rfl (.nz (.mtE [0, 1, 2] ?_));(cbv; repeat (refine ⟨an_, ?_⟩; cbv))
     obtain ⟨v11, rfl⟩ := ez t;cbv;refine brkG h ?_ ?_ <;> intro h
     ·cbv;obtain rfl := oj h;obtain rfl := hr2 _ rfl;obtain rfl := hr1 _ rfl;exact hK _ _ aw_
     ·cbv;refine .g h (fun _ => rfl) fun x12 h => ?_;cbv;refine brkG h ?_ ?_ <;> intro h
      ·cbv;obtain rfl := oj h;obtain rfl := hr2 _ rfl;refine hKn1 _ _ _ rfl (.nz (.mtE [0, 1, 2] ?_));(cbv; repeat (refine ⟨an_, ?_⟩; cbv))
      ·cbv;refine .g h (fun (v13 : Bool) => [.top, .d (.sl (W eIu8 choices)), ob high, .ptr 0 0] ++ rp 3 .top ++ [ob up1, .ptr 1 0, .top, .ptr 2 0, .top, oi i10, .ptr 3 0] ++ rp 66 .top ++ [ob v13] ++ rp 126 .top) (fun v13 => [.cells [.d (.sl (W eRule p.Rules))] 24, .cells [.d (.sl (W eNode v4.1.Nodes)), .d (.sl (W eDecision v4.1.Leaves))] 28, .cells (cR z8) 57, .cells [oi x12.Attr, .d (.sl (W eIi64 x12.Cuts)), .d (.sl (W eIi64 x12.Kids)), oi x12.Leaf] 64]) (fun y hm Kn3 hKn3 => ?_) fun t h => ?_
       ·have h := hm;clear hm;cbv;refine brkG h ?_ ?_ <;> intro h
        ·cbv;obtain rfl := oj h;refine hKn3 _ _ _ rfl (.nz (.mtE [0, 1, 2, 3] ?_));(cbv; repeat (refine ⟨an_, ?_⟩; cbv))
        ·cbv;refine brkG h ?_ ?_ <;> intro h
         ·cbv;obtain rfl := oj h;refine hKn3 _ _ _ rfl (.nz (.mtE [0, 1, 2, 3] ?_));(cbv; repeat (refine ⟨an_, ?_⟩; cbv))
         ·cbv;refine brkG h ?_ ?_ <;> intro h
          ·cbv;obtain rfl := oj h;refine hKn3 _ _ _ rfl (.nz (.mtE [0, 1, 2, 3] ?_));(cbv; repeat (refine ⟨an_, ?_⟩; cbv))
          ·cbv;obtain rfl := oj h;refine hKn3 _ _ _ rfl (.nz (.mtE [0, 1, 2, 3] ?_));(cbv; repeat (refine ⟨an_, ?_⟩; cbv))
       obtain ⟨v13, rfl⟩ := ez t;cbv;refine brkG h ?_ ?_ <;> intro h
       ·cbv;obtain rfl := oj h;obtain rfl := hr2 _ rfl;obtain rfl := hr1 _ rfl;exact hK _ _ aw_
       ·cbv;refine .g h (fun (k14 : Int) => [.top, .d (.sl (W eIu8 choices)), ob high, .ptr 0 0] ++ rp 3 .top ++ [ob up1, .ptr 1 0, .top, .ptr 2 0, .top, oi i10, .ptr 3 0, oi k14] ++ rp 192 .top) (fun k14 => [.cells [.d (.sl (W eRule p.Rules))] 24, .cells [.d (.sl (W eNode v4.1.Nodes)), .d (.sl (W eDecision v4.1.Leaves))] 28, .cells (cR z8) 57, .cells [oi x12.Attr, .d (.sl (W eIi64 x12.Cuts)), .d (.sl (W eIi64 x12.Kids)), oi x12.Leaf] 64]) (fun y hm Kn3 hKn3 => ?_) fun t h => ?_
        ·have h := hm;clear hm;cbv;refine brkG h ?_ ?_ <;> intro h
         ·cbv;refine .g h (fun _ => rfl) fun x15 h => ?_;cbv;refine .g h fun h => ?_;cbv;obtain rfl := oj h;refine hKn3 _ _ _ rfl (.nz (.mtE [0, 1, 2, 3] ?_));(cbv; repeat (refine ⟨an_, ?_⟩; cbv))
         ·cbv;obtain rfl := oj h;refine hKn3 _ _ _ rfl (.nz (.mtE [0, 1, 2, 3] ?_));(cbv; repeat (refine ⟨an_, ?_⟩; cbv))
        obtain ⟨k14, rfl⟩ := ez t;cbv;refine .g h (fun (z16 : (A10 Range)) => [.top, .d (.sl (W eIu8 choices)), ob high, .ptr 0 0] ++ rp 3 .top ++ [ob up1, .ptr 1 0, .top, .ptr 2 0, .top, oi i10, .ptr 3 0, oi k14] ++ rp 192 .top) (fun z16 => [.cells [.d (.sl (W eRule p.Rules))] 24, .cells [.d (.sl (W eNode v4.1.Nodes)), .d (.sl (W eDecision v4.1.Leaves))] 28, .cells (cR z16) 57, .cells [oi x12.Attr, .d (.sl (W eIi64 x12.Cuts)), .d (.sl (W eIi64 x12.Kids)), oi x12.Leaf] 64]) (fun y hm Kn3 hKn3 => ?_) fun t h => ?_
        ·have h := hm;clear hm;cbv;refine brkG h ?_ ?_ <;> intro h
         ·cbv
          refine .c10 h ?_ ?_ ?_ ?_ ?_ ?_ ?_ ?_ ?_ ?_ <;> (
           intro hni17 h;cbv;refine .g h (fun _ => rfl) fun x18 h => ?_;cbv;refine .at _ hni17 (by decide) ?_;cbv;obtain rfl := oj h;refine hKn3 _ _ _ rfl (.nz (.mtE [0, 1, 2, 3] ?_));(cbv; repeat (refine ⟨an_, ?_⟩; cbv))
           )
         ·cbv;obtain rfl := oj h;refine hKn3 _ _ _ rfl (.nz (.mtE [0, 1, 2, 3] ?_));(cbv; repeat (refine ⟨an_, ?_⟩; cbv))
        obtain ⟨z16, rfl⟩ := ez t;cbv;refine .g h (fun (z19 : (A10 Range)) => [.top, .d (.sl (W eIu8 choices)), ob high, .ptr 0 0] ++ rp 3 .top ++ [ob up1, .ptr 1 0, .top, .ptr 2 0, .top, oi i10, .ptr 3 0, oi k14] ++ rp 192 .top) (fun z19 => [.cells [.d (.sl (W eRule p.Rules))] 24, .cells [.d (.sl (W eNode v4.1.Nodes)), .d (.sl (W eDecision v4.1.Leaves))] 28, .cells (cR z19) 57, .cells [oi x12.Attr, .d (.sl (W eIi64 x12.Cuts)), .d (.sl (W eIi64 x12.Kids)), oi x12.Leaf] 64]) (fun y hm Kn3 hKn3 => ?_) fun t h => ?_
        ·have h := hm;clear hm;cbv;refine brkG h ?_ ?_ <;> intro h
         ·cbv
          refine .c10 h ?_ ?_ ?_ ?_ ?_ ?_ ?_ ?_ ?_ ?_ <;> (
           intro hni20 h;cbv;refine .g h (fun _ => rfl) fun x21 h => ?_;cbv;refine .at _ hni20 (by decide) ?_;cbv;obtain rfl := oj h;refine hKn3 _ _ _ rfl (.nz (.mtE [0, 1, 2, 3] ?_));(cbv; repeat (refine ⟨an_, ?_⟩; cbv))
           )
         ·cbv;obtain rfl := oj h;refine hKn3 _ _ _ rfl (.nz (.mtE [0, 1, 2, 3] ?_));(cbv; repeat (refine ⟨an_, ?_⟩; cbv))
        obtain ⟨z19, rfl⟩ := ez t;cbv;refine .g h (fun _ => rfl) fun x22 h => ?_;cbv;obtain rfl := oj h;refine hKn2 _ _ _ rfl (.nz (.mtE [0, 1, 2] ?_));(cbv; repeat (refine ⟨an_, ?_⟩; cbv))
    ·cbv;obtain rfl := oj h;obtain rfl := hr2 _ rfl;refine hKn1 _ _ _ rfl (.nz (.mtE [0, 1, 2] ?_));(cbv; repeat (refine ⟨an_, ?_⟩; cbv))
   obtain ⟨z6, at7⟩ := t;cbv;refine .ga h (fun (f23 : (A10 Int)) => rp 3 .top ++ [.ptr 0 0] ++ rp 3 .top ++ [ob up1, .ptr 1 0, .top, .top, oi at7] ++ rp 3 .top ++ [.ptr 2 0] ++ rp 191 .top) (fun f23 => [.cells [.d (.sl (W eRule p.Rules))] 24, .cells [.d (.sl (W eNode v4.1.Nodes)), .d (.sl (W eDecision v4.1.Leaves))] 28, .cells (ca f23) 38]) (fun y hm hr1 Kn1 hKn1 => ?_) fun t h => ?_
   ·have h := hm;clear hm;cbv;refine .g h (fun ((f24, i25) : (A10 Int) × Int) => [.top, .top, ob high, .ptr 0 0] ++ rp 3 .top ++ [ob up1, .ptr 1 0, .top, .ptr 2 0, oi at7] ++ rp 3 .top ++ [.ptr 3 0, oi i25] ++ rp 190 .top) (fun (f24, i25) => [.cells [.d (.sl (W eRule p.Rules))] 24, .cells [.d (.sl (W eNode v4.1.Nodes)), .d (.sl (W eDecision v4.1.Leaves))] 28, .cells (cR z6) 57, .cells (ca f24) 38]) (.nz (.mtE [0, 1, 2, 3] ?_)) fun s x h hr2 Kn2 hKn2 => ?_
    ·(cbv; repeat (refine ⟨an_, ?_⟩; cbv))
    unfold law14_TableLeaves_l4 at h;obtain ⟨f24, i25⟩ := s;cbv;refine brkG h ?_ ?_ <;> intro h
    ·cbv;refine .ga h (fun ((f26, i27) : (A10 Int) × Int) => [.top, .top, ob high, .ptr 0 0] ++ rp 3 .top ++ [ob up1, .ptr 1 0, .top, .ptr 2 0, oi at7] ++ rp 3 .top ++ [.ptr 3 0, oi i27] ++ rp 190 .top) (fun (f26, i27) => [.cells [.d (.sl (W eRule p.Rules))] 24, .cells [.d (.sl (W eNode v4.1.Nodes)), .d (.sl (W eDecision v4.1.Leaves))] 28, .cells (cR z6) 57, .cells (ca f26) 38]) (fun y hm hr3 Kn3 hKn3 => ?_) fun t h => ?_
     ·have h := hm;clear hm;cbv;refine .g h (fun ((i28, v29) : Int × Bool) => [.top, .top, ob high, .ptr 0 0] ++ rp 3 .top ++ [ob up1, .ptr 1 0, .top, .ptr 2 0, oi at7] ++ rp 3 .top ++ [.ptr 3 0, oi i28] ++ rp 133 .top ++ [ob v29] ++ rp 56 .top) (fun (i28, v29) => [.cells [.d (.sl (W eRule p.Rules))] 24, .cells [.d (.sl (W eNode v4.1.Nodes)), .d (.sl (W eDecision v4.1.Leaves))] 28, .cells (cR z6) 57, .cells (ca f24) 38]) (fun y hm Kn4 hKn4 => ?_) fun t h => ?_
      ·have h := hm;clear hm;cbv
       refine .c10 h ?_ ?_ ?_ ?_ ?_ ?_ ?_ ?_ ?_ ?_ <;> (
        intro hni30 h;cbv;refine .at _ hni30 (by decide) ?_;cbv;obtain rfl := oj h;refine hKn4 _ _ _ rfl (.nz (.mtE [0, 1, 2, 3] ?_));(cbv; repeat (refine ⟨an_, ?_⟩; cbv))
        )
      obtain ⟨i28, v29⟩ := t;cbv;refine brkG h ?_ ?_ <;> intro h
      ·cbv;obtain rfl := oj h;obtain rfl := hr3 _ rfl;obtain rfl := hr2 _ rfl;obtain rfl := hr1 _ rfl;exact hK _ _ aw_
      ·cbv;refine .g h (fun ((f31, ix32) : (A10 Int) × Int) => [.top, .top, ob high, .ptr 0 0] ++ rp 3 .top ++ [ob up1, .ptr 1 0, .top, .ptr 2 0, oi at7] ++ rp 3 .top ++ [.ptr 3 0, oi ix32] ++ rp 190 .top) (fun (f31, ix32) => [.cells [.d (.sl (W eRule p.Rules))] 24, .cells [.d (.sl (W eNode v4.1.Nodes)), .d (.sl (W eDecision v4.1.Leaves))] 28, .cells (cR z6) 57, .cells (ca f31) 38]) (fun y hm Kn4 hKn4 => ?_) fun t h => ?_
       ·have h := hm;clear hm;cbv
        refine .c10 h ?_ ?_ ?_ ?_ ?_ ?_ ?_ ?_ ?_ ?_ <;> (
         intro hni33 h;cbv;refine .at _ hni33 (by decide) ?_;cbv;obtain rfl := oj h;refine hKn4 _ _ _ rfl (.nz (.mtE [0, 1, 2, 3] ?_));(cbv; repeat (refine ⟨an_, ?_⟩; cbv))
         )
       obtain ⟨f31, ix32⟩ := t;cbv;refine brkG h ?_ ?_ <;> intro h
       ·cbv
        refine .c10 h ?_ ?_ ?_ ?_ ?_ ?_ ?_ ?_ ?_ ?_ <;> (
         intro hni34 h;cbv;refine .at _ hni34 (by decide) ?_;cbv;obtain rfl := oj h;refine hKn3 _ _ _ rfl (.nz (.mtE [0, 1, 2, 3] ?_));(cbv; repeat (refine ⟨an_, ?_⟩; cbv))
         )
       ·cbv;obtain rfl := oj h;refine hKn3 _ _ _ rfl (.nz (.mtE [0, 1, 2, 3] ?_));(cbv; repeat (refine ⟨an_, ?_⟩; cbv))
     obtain ⟨f26, i27⟩ := t;cbv;obtain rfl := oj h;refine hKn2 _ _ _ rfl (.nz (.mtE [0, 1, 2, 3] ?_));(cbv; repeat (refine ⟨an_, ?_⟩; cbv))
    ·cbv;obtain rfl := oj h;obtain rfl := hr2 _ rfl;refine hKn1 _ _ _ rfl (.nz (.mtE [0, 1, 3] ?_));(cbv; repeat (refine ⟨an_, ?_⟩; cbv))
   obtain ⟨f23, rfl⟩ := ez t;cbv;refine .g h (fun _ => rfl) fun x35 h => ?_;cbv;refine brkG h ?_ ?_ <;> intro h
   ·cbv;refine brkG h ?_ ?_ <;> intro h
    ·cbv;refine brkG h ?_ ?_ <;> intro h
     ·cbv;refine .g h (fun v hv => decide_Decide_R hP _ _ v hv) aw_ rfl (fun _ => rfl) fun v36 h => ?_;cbv;refine .g h (fun _ => rfl) fun x37 h => ?_;cbv;refine brkG h ?_ ?_ <;> intro h
      ·cbv;refine .g h (fun v hv => table_Lookup_R hP _ _ v hv) aw_ rfl (fun _ => rfl) fun v38 h => ?_;cbv;refine .g h (fun _ => rfl) fun x39 h => ?_;cbv;obtain rfl := oj h;exact hK _ _ aw_
      ·cbv;obtain rfl := oj h;exact hK _ _ aw_
     ·cbv;obtain rfl := oj h;exact hK _ _ aw_
    ·cbv;obtain rfl := oj h;exact hK _ _ aw_
   ·cbv;obtain rfl := oj h;exact hK _ _ aw_
end Go.SX.Td
