/- Parts of the proof. -/
import Derived.Test.YtllbabjgpdmblaaDoorZTdT
import Derived.Test.YtllbabjgpdmblaaDoorZTd17
import Derived.Test.YtllbabjgpdmblaaDoorZTd24
import Derived.Test.YtllbabjgpdmblaaDoorZTd49d
import Derived.Test.YtllbabjgpdmblaaDoorZTdSort
set_option linter.unusedSimpArgs false
set_option linter.unusedVariables false
set_option linter.unusedSectionVars false
namespace Go.SX.Td
open Go Go.SX Go.Proofs
set_option maxRecDepth 100000
def c22r0 : List GOp := [
 gv 0 (.mv (.const (.bool false)))]
def c22r1 : List GOp := [
 gv 17 (.call 26 []),
 gv 1 (.alloc 57 (.agg #[oz, oz, oz, oz, oz, oz, oz, oz, oz, oz, oz, oz, oz, oz, oz, oz, oz, oz, oz, oz])),
 ⟨none, .store 20 (.tmp 1) (.tmp 17), none⟩]
def c22r2 : List GOp := [
 gv 18 (.build (.agg #[oz, oz]) [((0, 1), (.const (.int .i64 1))), ((1, 1), (.const (.int .i64 1)))]),
 gv 19 (.call 53 [(.const (.int .i64 2)), (.tmp 18)]),
 gv 20 (.call 52 [(.const (.int .i64 1)), (.const (.string ⟨#[97]⟩)), (.const (.int .i64 0)), (.tmp 19)]),
 gv 2 (.alloc 36 (.agg #[oz, (.string ⟨#[]⟩), (.slice none 0 0), oz, oz, oz, oz, oz])),
 ⟨none, .store 8 (.tmp 2) (.tmp 20), none⟩]
def c22r3 : List GOp := [
 gv 21 (.load 20 true (.tmp 1)),
 gv 22 (.call 52 [(.const (.int .i64 3)), (.const (.string ⟨#[112]⟩)), (.const (.int .i64 100)), (.tmp 21)]),
 gv 3 (.alloc 36 (.agg #[oz, (.string ⟨#[]⟩), (.slice none 0 0), oz, oz, oz, oz, oz])),
 ⟨none, .store 8 (.tmp 3) (.tmp 22), none⟩]
def c22r4 : List GOp := [
 gv 23 (.build (.agg #[oz, oz]) [((1, 1), (.const (.int .i64 17)))]),
 gv 24 (.call 53 [(.const (.int .i64 1)), (.tmp 23)]),
 gv 25 (.call 52 [(.const (.int .i64 2)), (.const (.string ⟨#[100]⟩)), (.const (.int .i64 0)), (.tmp 24)]),
 gv 4 (.alloc 36 (.agg #[oz, (.string ⟨#[]⟩), (.slice none 0 0), oz, oz, oz, oz, oz])),
 ⟨none, .store 8 (.tmp 4) (.tmp 25), none⟩]
def c22r5 : List GOp := [
 gv 27 (.build (.agg #[(.slice none 0 0)]) []),
 gv 28 (.call 24 [(.tmp 27)]),
 gv 26 (.mv (.tmp 28)),
 gv 29 (.ext (.tmp 26) 0),
 gv 30 (.ext (.tmp 26) 1),
 gv 5 (.alloc 28 (.agg #[(.slice none 0 0), (.slice none 0 0)])),
 ⟨none, .store 2 (.tmp 5) (.tmp 29), none⟩,
 gv 6 (.mv (.tmp 30))]
def c22r6 : List GOp := [
 gv 32 (.load 20 true (.tmp 1)),
 gv 33 (.call 52 [(.const (.int .i64 1)), (.const (.string ⟨#[97]⟩)), (.const (.int .i64 0)), (.tmp 32)]),
 gv 34 (.load 8 true (.tmp 3)),
 gv 35 (.bslice 36 8 2 (.agg #[oz, (.string ⟨#[]⟩), (.slice none 0 0), oz, oz, oz, oz, oz]) [(0, (.tmp 33)), (1, (.tmp 34))]),
 gv 36 (.build (.agg #[(.slice none 0 0)]) [((0, 1), (.tmp 35))]),
 gv 37 (.call 24 [(.tmp 36)]),
 gv 31 (.mv (.tmp 37)),
 gv 38 (.ext (.tmp 31) 0),
 gv 39 (.ext (.tmp 31) 1),
 gv 7 (.alloc 28 (.agg #[(.slice none 0 0), (.slice none 0 0)])),
 ⟨none, .store 2 (.tmp 7) (.tmp 38), none⟩,
 gv 8 (.mv (.tmp 39))]
def c22r7 : List GOp := [
 gv 41 (.load 8 true (.tmp 2)),
 gv 42 (.load 8 true (.tmp 3)),
 gv 43 (.bslice 36 8 2 (.agg #[oz, (.string ⟨#[]⟩), (.slice none 0 0), oz, oz, oz, oz, oz]) [(0, (.tmp 41)), (1, (.tmp 42))]),
 gv 44 (.build (.agg #[(.slice none 0 0)]) [((0, 1), (.tmp 43))]),
 gv 45 (.call 24 [(.tmp 44)]),
 gv 40 (.mv (.tmp 45)),
 gv 46 (.ext (.tmp 40) 0),
 gv 47 (.ext (.tmp 40) 1),
 gv 9 (.alloc 28 (.agg #[(.slice none 0 0), (.slice none 0 0)])),
 ⟨none, .store 2 (.tmp 9) (.tmp 46), none⟩,
 gv 10 (.mv (.tmp 47))]
def c22r8 : List GOp := [
 gv 49 (.load 8 true (.tmp 2)),
 gv 50 (.load 8 true (.tmp 3)),
 gv 51 (.load 8 true (.tmp 4)),
 gv 52 (.bslice 36 8 3 (.agg #[oz, (.string ⟨#[]⟩), (.slice none 0 0), oz, oz, oz, oz, oz]) [(0, (.tmp 49)), (1, (.tmp 50)), (2, (.tmp 51))]),
 gv 53 (.build (.agg #[(.slice none 0 0)]) [((0, 1), (.tmp 52))]),
 gv 54 (.call 24 [(.tmp 53)]),
 gv 48 (.mv (.tmp 54)),
 gv 55 (.ext (.tmp 48) 0),
 gv 56 (.ext (.tmp 48) 1),
 gv 11 (.alloc 28 (.agg #[(.slice none 0 0), (.slice none 0 0)])),
 ⟨none, .store 2 (.tmp 11) (.tmp 55), none⟩,
 gv 12 (.mv (.tmp 56))]
def c22r9 : List GOp := [
 gv 58 (.build (.agg #[oz, (.string ⟨#[]⟩), (.slice none 0 0), oz, oz, oz, oz, oz]) []),
 gv 59 (.bslice 36 8 1 (.agg #[oz, (.string ⟨#[]⟩), (.slice none 0 0), oz, oz, oz, oz, oz]) [(0, (.tmp 58))]),
 gv 60 (.build (.agg #[(.slice none 0 0)]) [((0, 1), (.tmp 59))]),
 gv 61 (.call 24 [(.tmp 60)]),
 gv 57 (.mv (.tmp 61)),
 gv 62 (.ext (.tmp 57) 0),
 gv 63 (.ext (.tmp 57) 1),
 gv 13 (.alloc 28 (.agg #[(.slice none 0 0), (.slice none 0 0)])),
 ⟨none, .store 2 (.tmp 13) (.tmp 62), none⟩,
 gv 14 (.mv (.tmp 63))]
def c22r10 : List GOp := [
 gv 64 (.mv (.tmp 6)),
 gv 65 (.bin .neq (.tmp 64) (.const (.int .i64 0))),
 gv 66 (.mv (.tmp 65)),
 gw 67 66 false (.mv (.tmp 8)),
 gw 68 66 false (.bin .neq (.tmp 67) (.const (.int .i64 0))),
 gv 69 (.pick (.tmp 66) (.const (.bool true)) (.tmp 68)),
 gv 70 (.mv (.tmp 69)),
 gw 71 70 false (.mv (.tmp 10)),
 gw 72 70 false (.bin .neq (.tmp 71) (.const (.int .i64 0))),
 gv 73 (.pick (.tmp 70) (.const (.bool true)) (.tmp 72)),
 gv 74 (.mv (.tmp 73)),
 gw 75 74 false (.mv (.tmp 12)),
 gw 76 74 false (.bin .neq (.tmp 75) (.const (.int .i64 0))),
 gv 77 (.pick (.tmp 74) (.const (.bool true)) (.tmp 76)),
 gv 78 (.mv (.tmp 77)),
 gw 79 78 false (.mv (.tmp 14)),
 gw 80 78 false (.bin .neq (.tmp 79) (.const (.int .i64 1))),
 gv 81 (.pick (.tmp 78) (.const (.bool true)) (.tmp 80)),
 gv 82 (.mv (.tmp 81)),
 gw 83 82 false (.fadd 0 (.tmp 5)),
 gw 84 82 false (.load 1 false (.tmp 83)),
 gw 85 82 false (.len false (.tmp 84)),
 gw 86 82 false (.bin .neq (.tmp 85) (.const (.int .i64 1))),
 gv 87 (.pick (.tmp 82) (.const (.bool true)) (.tmp 86)),
 gv 88 (.mv (.tmp 87)),
 gw 89 88 false (.fadd 0 (.tmp 7)),
 gw 90 88 false (.load 1 false (.tmp 89)),
 gw 91 88 false (.len false (.tmp 90)),
 gw 92 88 false (.bin .neq (.tmp 91) (.const (.int .i64 1))),
 gv 93 (.pick (.tmp 88) (.const (.bool true)) (.tmp 92)),
 gv 94 (.mv (.tmp 93)),
 gw 95 94 false (.fadd 0 (.tmp 9)),
 gw 96 94 false (.load 1 false (.tmp 95)),
 gw 97 94 false (.len false (.tmp 96)),
 gw 98 94 false (.bin .neq (.tmp 97) (.const (.int .i64 3))),
 gv 99 (.pick (.tmp 94) (.const (.bool true)) (.tmp 98)),
 gv 100 (.mv (.tmp 99)),
 gw 101 100 false (.fadd 0 (.tmp 11)),
 gw 102 100 false (.load 1 false (.tmp 101)),
 gw 103 100 false (.len false (.tmp 102)),
 gw 104 100 false (.bin .neq (.tmp 103) (.const (.int .i64 5))),
 gv 105 (.pick (.tmp 100) (.const (.bool true)) (.tmp 104))]
def c22r11 : List GOp := [
 gv 0 (.mv (.const (.bool false)))]
def c22r12 : List GOp := [
 gv 106 (.fadd 1 (.tmp 5)),
 gv 107 (.load 1 false (.tmp 106)),
 gv 108 (.idxA 16 (.tmp 107) (.const (.int .i64 0))),
 gv 109 (.fadd 0 (.tmp 108)),
 gv 110 (.load 1 false (.tmp 109)),
 gv 111 (.un .not (.tmp 110)),
 gv 112 (.mv (.tmp 111)),
 gw 113 112 true (.fadd 1 (.tmp 7)),
 gw 114 112 true (.load 1 false (.tmp 113)),
 gw 115 112 true (.idxA 16 (.tmp 114) (.const (.int .i64 0))),
 gw 116 112 true (.fadd 0 (.tmp 115)),
 gw 117 112 true (.load 1 false (.tmp 116)),
 gv 118 (.pick (.tmp 112) (.tmp 117) (.const (.bool false))),
 gv 119 (.mv (.tmp 118)),
 gw 120 119 true (.fadd 1 (.tmp 7)),
 gw 121 119 true (.load 1 false (.tmp 120)),
 gw 122 119 true (.idxA 16 (.tmp 121) (.const (.int .i64 0))),
 gw 123 119 true (.fadd 4 (.tmp 122)),
 gw 124 119 true (.load 1 false (.tmp 123)),
 gw 125 119 true (.bin .eql (.tmp 124) (.const (.int .i64 100))),
 gv 126 (.pick (.tmp 119) (.tmp 125) (.const (.bool false))),
 gv 127 (.mv (.tmp 126)),
 gw 128 127 true (.fadd 0 (.tmp 9)),
 gw 129 127 true (.load 1 false (.tmp 128)),
 gw 130 127 true (.idxA 4 (.tmp 129) (.const (.int .i64 0))),
 gw 131 127 true (.load 4 true (.tmp 130)),
 gw 132 127 true (.bslice 3 1 1 oz [(0, (.const (.int .i64 1)))]),
 gw 133 127 true (.bslice 3 1 2 oz [(0, (.const (.int .i64 1))), (1, (.const (.int .i64 2)))]),
 gw 134 127 true (.build (.agg #[oz, (.slice none 0 0), (.slice none 0 0), oz]) [((0, 1), (.const (.int .i64 2))), ((1, 1), (.tmp 132)), ((2, 1), (.tmp 133))]),
 gw 135 127 true (.call 54 [(.tmp 131), (.tmp 134)]),
 gv 136 (.pick (.tmp 127) (.tmp 135) (.const (.bool false))),
 gv 137 (.mv (.tmp 136)),
 gw 138 137 true (.fadd 0 (.tmp 11)),
 gw 139 137 true (.load 1 false (.tmp 138)),
 gw 140 137 true (.idxA 4 (.tmp 139) (.const (.int .i64 0))),
 gw 141 137 true (.load 4 true (.tmp 140)),
 gw 142 137 true (.bslice 3 1 1 oz [(0, (.const (.int .i64 18)))]),
 gw 143 137 true (.bslice 3 1 2 oz [(0, (.const (.int .i64 1))), (1, (.const (.int .i64 2)))]),
 gw 144 137 true (.build (.agg #[oz, (.slice none 0 0), (.slice none 0 0), oz]) [((0, 1), (.const (.int .i64 1))), ((1, 1), (.tmp 142)), ((2, 1), (.tmp 143))]),
 gw 145 137 true (.call 54 [(.tmp 141), (.tmp 144)]),
 gv 146 (.pick (.tmp 137) (.tmp 145) (.const (.bool false))),
 gv 15 (.mv (.tmp 146))]
def c22r13 : List GOp := [
 gv 147 (.build (.agg #[oz, oz, oz, oz, oz, oz, oz, oz, oz, oz]) [((1, 1), (.const (.int .i64 30))), ((2, 1), (.const (.int .i64 1))), ((8, 1), (.const (.int .i64 1)))]),
 gv 16 (.alloc 38 (.agg #[oz, oz, oz, oz, oz, oz, oz, oz, oz, oz])),
 ⟨none, .store 10 (.tmp 16) (.tmp 147), none⟩]
def c22r14 : List GOp := [
 gv 148 (.mv (.tmp 15)),
 gv 149 (.mv (.tmp 148)),
 gw 150 149 true (.load 2 true (.tmp 11)),
 gw 151 149 true (.load 10 true (.tmp 16)),
 gw 152 149 true (.call 20 [(.tmp 150), (.tmp 151)]),
 gw 153 149 true (.fld 0 1 false (.tmp 152)),
 gv 154 (.pick (.tmp 149) (.tmp 153) (.const (.bool false))),
 gv 155 (.mv (.tmp 154)),
 gw 156 155 true (.load 2 true (.tmp 9)),
 gw 157 155 true (.build (.agg #[oz, oz, oz, oz, oz, oz, oz, oz, oz, oz]) []),
 gw 158 155 true (.call 20 [(.tmp 156), (.tmp 157)]),
 gw 159 155 true (.fld 0 1 false (.tmp 158)),
 gw 160 155 true (.un .not (.tmp 159)),
 gv 161 (.pick (.tmp 155) (.tmp 160) (.const (.bool false))),
 gv 162 (.mv (.tmp 161)),
 gw 163 162 true (.load 2 true (.tmp 11)),
 gw 164 162 true (.call 17 [(.tmp 163)]),
 gv 165 (.pick (.tmp 162) (.tmp 164) (.const (.bool false))),
 gv 166 (.mv (.tmp 165)),
 gw 167 166 true (.build (.agg #[(.slice none 0 0), (.slice none 0 0)]) []),
 gw 168 166 true (.call 17 [(.tmp 167)]),
 gw 169 166 true (.un .not (.tmp 168)),
 gv 170 (.pick (.tmp 166) (.tmp 169) (.const (.bool false))),
 gv 0 (.mv (.tmp 170))]
def c22 : EFn := ⟨171, .seq (.reg c22r0) (.seq (.reg c22r1) (.seq (.reg c22r2) (.seq (.reg c22r3) (.seq (.reg c22r4) (.seq (.reg c22r5) (.seq (.par false false false 11 c22r6) (.seq (.reg c22r7) (.seq (.reg c22r8) (.seq (.reg c22r9) (.seq (.join (.reg c22r10) (.cond (.tmp 105) (.seq (.reg c22r11) (.ret)) (.skip))) (.join (.reg c22r12) (.seq (.reg c22r13) (.seq (.reg c22r14) (.ret)))))))))))))), [.tmp 0]⟩
theorem c22_ok : compF Tryd.prog 22 = some c22.er := by kernel_rfl
set_option maxHeartbeats 4000000 in
theorem law14_head_R {P : Program} (hP : P = Tryd.prog) (r : Bool) (h : law14_head_g = some r) : Fn1 P 22 [] (vB r) := by
 refine .walkE (hP ▸ c22_ok) fun K hK => ?_;unfold law14_head_g at h;cbv;refine .g h (fun v hv => resolve_Limits_R hP v hv) aw_ rfl (fun _ => rfl) fun v1 h => ?_;cbv;refine .g h (fun v hv => law14_all_R hP _ _ v hv) aw_ rfl (fun _ => rfl) fun v2 h => ?_;cbv;refine .g h (fun v hv => law14_rule_R hP _ _ _ _ v hv) aw_ rfl (fun _ => rfl) fun v3 h => ?_;cbv;refine .g h (fun v hv => law14_rule_R hP _ _ _ _ v hv) aw_ rfl (fun _ => rfl) fun v4 h => ?_;cbv;refine .g h (fun v hv => law14_all_R hP _ _ v hv) aw_ rfl (fun _ => rfl) fun v5 h => ?_;cbv;refine .g h (fun v hv => law14_rule_R hP _ _ _ _ v hv) aw_ rfl (fun _ => rfl) fun v6 h => ?_;cbv;refine .g h (fun v hv => table_Build_R hP _ v hv) aw_ rfl (fun _ => rfl) fun v7 h => ?_;cbv;refine .g h (fun v hv => law14_rule_R hP _ _ _ _ v hv) aw_ rfl (fun _ => rfl) fun v8 h => ?_;cbv;refine .g (e := eRule) h (W_cons aw_ (W_cons aw_ (W_nil' _))) fun l9 h => ?_;cbv;refine .g h (fun v hv => table_Build_R hP _ v hv) aw_ rfl (fun _ => rfl) fun v10 h => ?_;cbv;refine .g (e := eRule) h (W_cons aw_ (W_cons aw_ (W_nil' _))) fun l11 h => ?_;cbv;refine .g h (fun v hv => table_Build_R hP _ v hv) aw_ rfl (fun _ => rfl) fun v12 h => ?_;cbv;refine .g (e := eRule) h (W_cons aw_ (W_cons aw_ (W_cons aw_ (W_nil' _)))) fun l13 h => ?_;cbv;refine .g h (fun v hv => table_Build_R hP _ v hv) aw_ rfl (fun _ => rfl) fun v14 h => ?_;cbv;refine .g (e := eRule) h (W_cons aw_ (W_nil' _)) fun l15 h => ?_;cbv;refine .g h (fun v hv => table_Build_R hP _ v hv) aw_ rfl (fun _ => rfl) fun v16 h => ?_;cbv;refine .g h (fun (v17 : Bool) => rp 5 .top ++ [.ptr 0 0, .top, .ptr 1 0, .top, .ptr 2 0, .top, .ptr 3 0] ++ rp 93 .top ++ [ob v17] ++ rp 65 .top) (fun v17 => [.cells [.d (.sl (W eNode v7.1.Nodes)), .d (.sl (W eDecision v7.1.Leaves))] 28, .cells [.d (.sl (W eNode v10.1.Nodes)), .d (.sl (W eDecision v10.1.Leaves))] 28, .cells [.d (.sl (W eNode v12.1.Nodes)), .d (.sl (W eDecision v12.1.Leaves))] 28, .cells [.d (.sl (W eNode v14.1.Nodes)), .d (.sl (W eDecision v14.1.Leaves))] 28]) (fun y hm Kn1 hKn1 => ?_) fun t h => ?_
 ·have h := hm;clear hm;cbv;refine brkG h ?_ ?_ <;> intro h
  ·cbv;obtain rfl := oj h;refine hKn1 _ _ _ rfl (.nz (.mtE [4, 5, 7, 9] ?_));(cbv; repeat (refine ⟨an_, ?_⟩; cbv))
  ·cbv;refine brkG h ?_ ?_ <;> intro h
   ·cbv;obtain rfl := oj h;refine hKn1 _ _ _ rfl (.nz (.mtE [4, 5, 7, 9] ?_));(cbv; repeat (refine ⟨an_, ?_⟩; cbv))
   ·cbv;refine brkG h ?_ ?_ <;> intro h
    ·cbv;obtain rfl := oj h;refine hKn1 _ _ _ rfl (.nz (.mtE [4, 5, 7, 9] ?_));(cbv; repeat (refine ⟨an_, ?_⟩; cbv))
    ·cbv;refine brkG h ?_ ?_ <;> intro h
     ·cbv;obtain rfl := oj h;refine hKn1 _ _ _ rfl (.nz (.mtE [4, 5, 7, 9] ?_));(cbv; repeat (refine ⟨an_, ?_⟩; cbv))
     ·cbv;refine brkG h ?_ ?_ <;> intro h
      ·cbv;obtain rfl := oj h;refine hKn1 _ _ _ rfl (.nz (.mtE [4, 5, 7, 9] ?_));(cbv; repeat (refine ⟨an_, ?_⟩; cbv))
      ·cbv;refine brkG h ?_ ?_ <;> intro h
       ·cbv;obtain rfl := oj h;refine hKn1 _ _ _ rfl (.nz (.mtE [4, 5, 7, 9] ?_));(cbv; repeat (refine ⟨an_, ?_⟩; cbv))
       ·cbv;refine brkG h ?_ ?_ <;> intro h
        ·cbv;obtain rfl := oj h;refine hKn1 _ _ _ rfl (.nz (.mtE [4, 5, 7, 9] ?_));(cbv; repeat (refine ⟨an_, ?_⟩; cbv))
        ·cbv;refine brkG h ?_ ?_ <;> intro h
         ·cbv;obtain rfl := oj h;refine hKn1 _ _ _ rfl (.nz (.mtE [4, 5, 7, 9] ?_));(cbv; repeat (refine ⟨an_, ?_⟩; cbv))
         ·cbv;obtain rfl := oj h;refine hKn1 _ _ _ rfl (.nz (.mtE [4, 5, 7, 9] ?_));(cbv; repeat (refine ⟨an_, ?_⟩; cbv))
 obtain ⟨v17, rfl⟩ := ez t;cbv;refine brkG h ?_ ?_ <;> intro h
 ·cbv;obtain rfl := oj h;exact hK _ _ aw_
 ·cbv;refine .g h (fun (one18 : Bool) => rp 9 .top ++ [.ptr 0 0, .top, .ptr 1 0] ++ rp 3 .top ++ [ob one18] ++ rp 155 .top) (fun one18 => [.cells [.d (.sl (W eNode v12.1.Nodes)), .d (.sl (W eDecision v12.1.Leaves))] 28, .cells [.d (.sl (W eNode v14.1.Nodes)), .d (.sl (W eDecision v14.1.Leaves))] 28]) (fun y hm Kn1 hKn1 => ?_) fun t h => ?_
  ·have h := hm;clear hm;cbv;refine .g h (fun _ => rfl) fun x19 h => ?_;cbv;refine brkG h ?_ ?_ <;> intro h
   ·cbv;refine .g h (fun _ => rfl) fun x20 h => ?_;cbv;refine brkG h ?_ ?_ <;> intro h
    ·cbv;refine .g h (fun _ => rfl) fun x21 h => ?_;cbv;refine brkG h ?_ ?_ <;> intro h
     ·cbv;refine .g h (fun _ => rfl) fun x22 h => ?_;cbv;refine .g (e := eIi64) h (W_cons aw_ (W_nil' _)) fun l23 h => ?_;cbv;refine .g (e := eIi64) h (W_cons aw_ (W_cons aw_ (W_nil' _))) fun l24 h => ?_;cbv;refine .gl [] h (fun v hv => ref14_Equal_R hP _ _ v hv) aw_ rfl fun v25 h => ?_;cbv;refine brkG h ?_ ?_ <;> intro h
      ·cbv;refine .g h (fun _ => rfl) fun x26 h => ?_;cbv;refine .g (e := eIi64) h (W_cons aw_ (W_nil' _)) fun l27 h => ?_;cbv;refine .g (e := eIi64) h (W_cons aw_ (W_cons aw_ (W_nil' _))) fun l28 h => ?_;cbv;refine .gl [] h (fun v hv => ref14_Equal_R hP _ _ v hv) aw_ rfl fun v29 h => ?_;cbv;obtain rfl := oj h;refine hKn1 _ _ _ rfl (.nz (.mtE [2, 3] ?_));(cbv; repeat (refine ⟨an_, ?_⟩; cbv))
      ·cbv;obtain rfl := oj h;refine hKn1 _ _ _ rfl (.nz (.mtE [2, 3] ?_));(cbv; repeat (refine ⟨an_, ?_⟩; cbv))
     ·cbv;obtain rfl := oj h;refine hKn1 _ _ _ rfl (.nz (.mtE [2, 3] ?_));(cbv; repeat (refine ⟨an_, ?_⟩; cbv))
    ·cbv;obtain rfl := oj h;refine hKn1 _ _ _ rfl (.nz (.mtE [2, 3] ?_));(cbv; repeat (refine ⟨an_, ?_⟩; cbv))
   ·cbv;obtain rfl := oj h;refine hKn1 _ _ _ rfl (.nz (.mtE [2, 3] ?_));(cbv; repeat (refine ⟨an_, ?_⟩; cbv))
  obtain ⟨one18, rfl⟩ := ez t;cbv;refine brkG h ?_ ?_ <;> intro h
  ·cbv;refine .g h (fun v hv => table_Lookup_R hP _ _ v hv) aw_ rfl (fun _ => rfl) fun v30 h => ?_;cbv;refine brkG h ?_ ?_ <;> intro h
   ·cbv;refine .g h (fun v hv => table_Lookup_R hP _ _ v hv) aw_ rfl (fun _ => rfl) fun v31 h => ?_;cbv;refine brkG h ?_ ?_ <;> intro h
    ·cbv;refine .g h (fun v hv => table_Valid_R hP _ v hv) aw_ rfl (fun _ => rfl) fun v32 h => ?_;cbv;refine brkG h ?_ ?_ <;> intro h
     ·cbv;refine .g h (fun v hv => table_Valid_R hP _ v hv) aw_ rfl (fun _ => rfl) fun v33 h => ?_;cbv;obtain rfl := oj h;exact hK _ _ aw_
     ·cbv;obtain rfl := oj h;exact hK _ _ aw_
    ·cbv;obtain rfl := oj h;exact hK _ _ aw_
   ·cbv;obtain rfl := oj h;exact hK _ _ aw_
  ·cbv;obtain rfl := oj h;exact hK _ _ aw_
end Go.SX.Td
namespace Go.SX.Td
open Go Go.SX Go.Proofs
set_option maxRecDepth 100000
noncomputable def ref14_Few_l2 (p : Policy) : (Int × Int) → Option ((Int × Int) ⊕ ((Int) ⊕ (Bool)))
 | (zones2, i3) =>
 bif (io.lt i3 (io.len (W eRule p.Rules))) then (
 Option.bind (idxG p.Rules i3) fun x4 =>
 Option.bind (idxG p.Rules i3) fun x5 =>
 bif (io.lt 60 (io.ssz x5.Name)) then (
 some (.inr (.inr false))
 ) else (
 some (.inl ((io.ar .add .i64 zones2 (io.len (W eA10Range x4.Zones))), (io.ar .add .i64 i3 1)))
 )
 ) else (
 some (.inr (.inl zones2))
 )
noncomputable def ref14_Few_g (p : Policy) : Option (Bool) :=
 orR (
 whileG (ref14_Few_l2 p) (0, 0)
 ) fun zones1 =>
 bif (io.le (io.len (W eRule p.Rules)) 8) then (
 some (io.le zones1 10)
 ) else (
 some false
 )
end Go.SX.Td
namespace Go.SX.Td
open Go Go.SX Go.Proofs
set_option maxRecDepth 100000
def c23r0 : List GOp := [
 gv 1 (.box 24 (.tmp 0)),
 gv 2 (.mv (.const (.bool false)))]
def c23r1 : List GOp := [
 gv 3 (.mv (.const (.int .i64 0)))]
def c23r2 : List GOp := [
 gv 4 (.mv (.const (.int .i64 0)))]
def c23r3 : List GOp := [
 gv 5 (.mv (.tmp 4)),
 gv 6 (.fadd 0 (.tmp 1)),
 gv 7 (.load 1 false (.tmp 6)),
 gv 8 (.len false (.tmp 7)),
 gv 9 (.bin .lss (.tmp 5) (.tmp 8))]
def c23r4 : List GOp := [
 gv 12 (.mv (.tmp 3)),
 gv 13 (.fadd 0 (.tmp 1)),
 gv 14 (.load 1 false (.tmp 13)),
 gv 15 (.mv (.tmp 4)),
 gv 16 (.idxA 8 (.tmp 14) (.tmp 15)),
 gv 17 (.fadd 2 (.tmp 16)),
 gv 18 (.load 1 false (.tmp 17)),
 gv 19 (.len false (.tmp 18)),
 gv 20 (.bin .add (.tmp 12) (.tmp 19)),
 gv 3 (.mv (.tmp 20))]
def c23r5 : List GOp := [
 gv 21 (.fadd 0 (.tmp 1)),
 gv 22 (.load 1 false (.tmp 21)),
 gv 23 (.mv (.tmp 4)),
 gv 24 (.idxA 8 (.tmp 22) (.tmp 23)),
 gv 25 (.fadd 1 (.tmp 24)),
 gv 26 (.load 1 false (.tmp 25)),
 gv 27 (.len true (.tmp 26)),
 gv 28 (.bin .gtr (.tmp 27) (.const (.int .i64 60)))]
def c23r6 : List GOp := [
 gv 2 (.mv (.const (.bool false)))]
def c23r7 : List GOp := [
 gv 10 (.mv (.tmp 4)),
 gv 11 (.bin .add (.tmp 10) (.const (.int .i64 1))),
 gv 4 (.mv (.tmp 11))]
def c23l8 : DE := .seq (.seq (.reg c23r3) (.cond (.tmp 9) (.skip) (.exit 0))) (.seq (.block 1 (.seq (.reg c23r4) (.seq (.reg c23r5) (.cond (.tmp 28) (.seq (.reg c23r6) (.ret)) (.skip))))) (.reg c23r7))
def c23r9 : List GOp := [
 gv 29 (.fadd 0 (.tmp 1)),
 gv 30 (.load 1 false (.tmp 29)),
 gv 31 (.len false (.tmp 30)),
 gv 32 (.bin .leq (.tmp 31) (.const (.int .i64 8))),
 gv 33 (.mv (.tmp 32)),
 gw 34 33 true (.mv (.tmp 3)),
 gw 35 33 true (.bin .leq (.tmp 34) (.const (.int .i64 10))),
 gv 36 (.pick (.tmp 33) (.tmp 35) (.const (.bool false))),
 gv 2 (.mv (.tmp 36))]
def c23 : EFn := ⟨37, .seq (.reg c23r0) (.seq (.reg c23r1) (.join (.seq (.reg c23r2) (.block 0 (.loop c23l8))) (.seq (.reg c23r9) (.ret)))), [.tmp 2]⟩
theorem c23_ok : compF Tryd.prog 23 = some c23.er := by kernel_rfl
set_option maxHeartbeats 4000000 in
theorem ref14_Few_R {P : Program} (hP : P = Tryd.prog) (p : Policy) (r : Bool) (h : ref14_Few_g p = some r) : Fn1 P 23 [vPolicy p] (vB r) := by
 refine .walkE (hP ▸ c23_ok) fun K hK => ?_;unfold ref14_Few_g at h;cbv;refine .ga h (fun (zones1 : Int) => [.top, .ptr 0 0, .top, oi zones1] ++ rp 33 .top) (fun zones1 => [.cells [.d (.sl (W eRule p.Rules))] 24]) (fun y hm hr1 Kn1 hKn1 => ?_) fun t h => ?_
 ·have h := hm;clear hm;cbv;refine .g h (fun ((zones2, i3) : Int × Int) => [.top, .ptr 0 0, .top, oi zones2, oi i3] ++ rp 32 .top) (fun (zones2, i3) => [.cells [.d (.sl (W eRule p.Rules))] 24]) (.nz (.mtE [0] ?_)) fun s x h hr2 Kn2 hKn2 => ?_
  ·(cbv; repeat (refine ⟨an_, ?_⟩; cbv))
  unfold ref14_Few_l2 at h;obtain ⟨zones2, i3⟩ := s;cbv;refine brkG h ?_ ?_ <;> intro h
  ·cbv;refine .g h (fun _ => rfl) fun x4 h => ?_;cbv;refine .g h (fun _ => rfl) fun x5 h => ?_;cbv;refine brkG h ?_ ?_ <;> intro h
   ·cbv;obtain rfl := oj h;obtain rfl := hr2 _ rfl;obtain rfl := hr1 _ rfl;exact hK _ _ aw_
   ·cbv;obtain rfl := oj h;refine hKn2 _ _ _ rfl (.nz (.mtE [0] ?_));(cbv; repeat (refine ⟨an_, ?_⟩; cbv))
  ·cbv;obtain rfl := oj h;obtain rfl := hr2 _ rfl;refine hKn1 _ _ _ rfl (.nz (.mtE [0] ?_));(cbv; repeat (refine ⟨an_, ?_⟩; cbv))
 obtain ⟨zones1, rfl⟩ := ez t;cbv;refine brkG h ?_ ?_ <;> intro h
 ·cbv;obtain rfl := oj h;exact hK _ _ aw_
 ·cbv;obtain rfl := oj h;exact hK _ _ aw_
end Go.SX.Td
namespace Go.SX.Td
open Go Go.SX Go.Proofs
set_option maxRecDepth 100000
noncomputable def law14_TableLeaves_l2 (v4 : Table × Int) (choices : (List Int)) : ((A10 Range) × Int × Int) → Option (((A10 Range) × Int × Int) ⊕ (((A10 Range) × Int) ⊕ (Bool)))
 | (z8, at9, i10) =>
 bif (io.le i10 10) then (
 Option.bind (
 bif (io.lt at9 0) then (
 some true
 ) else (
 some (io.le (io.len (W eNode v4.1.Nodes)) at9)
 )
 ) fun v11 =>
 bif v11 then (
 some (.inr (.inr false))
 ) else (
 Option.bind (idxG v4.1.Nodes at9) fun x12 =>
 bif (io.eq (io.len (W eIi64 x12.Kids)) 0) then (
 some (.inr (.inl (z8, at9)))
 ) else (
 Option.bind (
 bif (io.eq i10 10) then (
 some true
 ) else (
 bif (io.lt x12.Attr 0) then (
 some true
 ) else (
 bif (io.le 10 x12.Attr) then (
 some true
 ) else (
 some (io.not (io.eq (io.ar .add .i64 (io.len (W eIi64 x12.Cuts)) 1) (io.len (W eIi64 x12.Kids))))
 )
 )
 )
 ) fun v13 =>
 bif v13 then (
 some (.inr (.inr false))
 ) else (
 Option.bind (
 bif (io.lt i10 (io.len (W eIu8 choices))) then (
 Option.bind (idxG choices i10) fun x15 =>
 Option.bind (divG (io.len (W eIi64 x12.Kids))) fun _ =>
 some (io.rem (io.wrap .i64 x15) (io.len (W eIi64 x12.Kids)))
 ) else (
 some 0
 )
 ) fun k14 =>
 Option.bind (
 bif (io.lt 0 k14) then (
 Option.bind (pixG 10 x12.Attr) fun i17 =>
 Option.bind (idxG x12.Cuts (io.ar .sub .i64 k14 1)) fun x18 =>
 some (z8.put i17 (Range.mk (io.mm true (z8.get i17).Lo x18) (z8.get i17).Hi))
 ) else (
 some z8
 )
 ) fun z16 =>
 Option.bind (
 bif (io.lt k14 (io.len (W eIi64 x12.Cuts))) then (
 Option.bind (pixG 10 x12.Attr) fun i20 =>
 Option.bind (idxG x12.Cuts k14) fun x21 =>
 some (z16.put i20 (Range.mk (z16.get i20).Lo (io.mm false (z16.get i20).Hi (io.ar .sub .i64 x21 1))))
 ) else (
 some z16
 )
 ) fun z19 =>
 Option.bind (idxG x12.Kids k14) fun x22 =>
 some (.inl (z19, x22, (io.ar .add .i64 i10 1)))
 )
 )
 )
 ) else (
 some (.inr (.inl (z8, at9)))
 )
noncomputable def law14_TableLeaves_l4 (z6 : (A10 Range)) (high : Bool) : ((A10 Int) × Int) → Option (((A10 Int) × Int) ⊕ (((A10 Int)) ⊕ (Bool)))
 | (f24, i25) =>
 bif (io.lt i25 10) then (
 orR (
 Option.bind (
 Option.bind (pixG 10 i25) fun i30 =>
 some (i25, (io.lt (z6.get i30).Hi (z6.get i30).Lo))
 ) fun (i28, v29) =>
 bif v29 then (
 some (.inr (.inr (.inr false)))
 ) else (
 Option.bind (
 Option.bind (pixG 10 i28) fun i33 =>
 some ((f24.put i33 (z6.get i33).Lo), i28)
 ) fun (f31, ix32) =>
 bif high then (
 Option.bind (pixG 10 ix32) fun i34 =>
 some (.inl ((f31.put i34 (z6.get i34).Hi), ix32))
 ) else (
 some (.inl (f31, ix32))
 )
 )
 ) fun (f26, i27) =>
 some (.inl (f26, (io.ar .add .i64 i27 1)))
 ) else (
 some (.inr (.inl f24))
 )
noncomputable def law14_TableLeaves_g (p : Policy) (choices : (List Int)) (high : Bool) : Option (Bool) :=
 Option.bind (law14_head_g) fun up1 =>
 Option.bind (
 Option.bind (ref14_Few_g p) fun v3 =>
 bif (io.not v3) then (
 some true
 ) else (
 some (io.lt 20 (io.len (W eIu8 choices)))
 )
 ) fun v2 =>
 bif v2 then (
 some up1
 ) else (
 Option.bind (table_Build_g p) fun v4 =>
 bif (io.not (io.eq v4.2 0)) then (
 some up1
 ) else (
 Option.bind (resolve_Limits_g) fun v5 =>
 orR (
 whileG (law14_TableLeaves_l2 v4 choices) (v5, 0, 0)
 ) fun (z6, at7) =>
 orR (
 whileG (law14_TableLeaves_l4 z6 high) ((A10.mk 0 0 0 0 0 0 0 0 0 0), 0)
 ) fun f23 =>
 Option.bind (idxG v4.1.Nodes at7) fun x35 =>
 bif up1 then (
 bif (io.le 0 x35.Leaf) then (
 bif (io.lt x35.Leaf (io.len (W eDecision v4.1.Leaves))) then (
 Option.bind (decide_Decide_g p f23) fun v36 =>
 Option.bind (idxG v4.1.Leaves x35.Leaf) fun x37 =>
 bif (qDecision v36 x37) then (
 Option.bind (table_Lookup_g v4.1 f23) fun v38 =>
 Option.bind (idxG v4.1.Leaves x35.Leaf) fun x39 =>
 some (qDecision v38 x39)
 ) else (
 some false
 )
 ) else (
 some false
 )
 ) else (
 some false
 )
 ) else (
 some false
 )
 )
 )
end Go.SX.Td
