/- Parts of the proof. -/
import Derived.Test.YtllbabjgpdmblaaDoorZTdT
import Derived.Test.YtllbabjgpdmblaaDoorZTdBuilder
import Derived.Test.YtllbabjgpdmblaaDoorZTd17
import Derived.Test.YtllbabjgpdmblaaDoorZTd22
import Derived.Test.YtllbabjgpdmblaaDoorZTdSort
import Derived.Test.YtllbabjgpdmblaaDoorZTd24
set_option linter.unusedSimpArgs false
set_option linter.unusedVariables false
set_option linter.unusedSectionVars false
namespace Go.SX.Td
open Go Go.SX Go.Proofs
set_option maxRecDepth 100000
noncomputable def law14_TableOthers_l2 (list33 : (List Table)) (f : (A10 Int)) : Int → Option ((Int) ⊕ ((Unit) ⊕ (Bool)))
 | m48 =>
 bif (io.lt m48 (io.len (W eTable list33))) then (
 Option.bind (
 Option.bind (rixG list33 m48) fun i50 =>
 Option.bind (list33[i50]?) fun v51 =>
 Option.bind (table_Valid_g v51) fun v52 =>
 bif v52 then (
 some true
 ) else (
 Option.bind (rixG list33 m48) fun i53 =>
 Option.bind (list33[i53]?) fun v54 =>
 Option.bind (table_Lookup_g v54 f) fun v55 =>
 some (io.not (qDecision v55 (Decision.mk false false false 0 0 (Ratio.mk 0 0) (Ratio.mk 0 0) (Ratio.mk 0 0) (Ratio.mk 0 0) (Ratio.mk 0 0) 0)))
 )
 ) fun v49 =>
 bif v49 then (
 some (.inr (.inr false))
 ) else (
 some (.inl (io.ar .add .i64 m48 1))
 )
 ) else (
 some (.inr (.inl ()))
 )
noncomputable def law14_TableOthers_g (p : Policy) (a : Int) (b : Int) (f : (A10 Int)) : Option (Bool) :=
 Option.bind (law14_head_g) fun up1 =>
 Option.bind (ref14_Few_g p) fun v2 =>
 bif (io.not v2) then (
 some up1
 ) else (
 Option.bind (table_Build_g p) fun v3 =>
 Option.bind (
 bif (io.not (io.eq v3.2 0)) then (
 some true
 ) else (
 bif (io.eq (io.len (W eNode v3.1.Nodes)) 0) then (
 some true
 ) else (
 some (io.eq (io.len (W eDecision v3.1.Leaves)) 0)
 )
 )
 ) fun v4 =>
 bif v4 then (
 bif up1 then (
 some (io.not (io.eq v3.2 0))
 ) else (
 some false
 )
 ) else (
 Option.bind (divG (io.len (W eNode v3.1.Nodes))) fun _ =>
 Option.bind (divG (io.len (W eNode v3.1.Nodes))) fun _ =>
 Option.bind (
 Option.bind (
 bif (io.not (io.eq (io.rem (io.wrap .i64 a) (io.len (W eNode v3.1.Nodes))) (io.rem (io.wrap .i64 b) (io.len (W eNode v3.1.Nodes))))) then (
 Option.bind (idxG v3.1.Nodes (io.rem (io.wrap .i64 a) (io.len (W eNode v3.1.Nodes)))) fun x7 =>
 Option.bind (idxG v3.1.Nodes (io.rem (io.wrap .i64 b) (io.len (W eNode v3.1.Nodes)))) fun x8 =>
 some (io.eq (io.ar .add .i64 (io.len (W eIi64 x7.Kids)) (io.len (W eIi64 x8.Kids))) 0)
 ) else (
 some false
 )
 ) fun v6 =>
 bif v6 then (
 Option.bind (some ([] : List Node)) fun l9 =>
 Option.bind (appG l9 v3.1.Nodes) fun l10 =>
 Option.bind (idxG v3.1.Nodes (io.rem (io.wrap .i64 b) (io.len (W eNode v3.1.Nodes)))) fun x11 =>
 Option.bind (rixG l10 (io.rem (io.wrap .i64 a) (io.len (W eNode v3.1.Nodes)))) fun i12 =>
 Option.bind (updG l10 i12 fun y13 => x11) fun l14 =>
 Option.bind (idxG v3.1.Nodes (io.rem (io.wrap .i64 a) (io.len (W eNode v3.1.Nodes)))) fun x15 =>
 Option.bind (rixG l14 (io.rem (io.wrap .i64 b) (io.len (W eNode v3.1.Nodes)))) fun ix16 =>
 Option.bind (updG l14 ix16 fun y17 => x15) fun l18 =>
 Option.bind (some [(Table.mk l18 v3.1.Leaves)]) fun l19 =>
 Option.bind (appG ([] : List Table) l19) fun list20 =>
 some list20
 ) else (
 some []
 )
 ) fun list5 =>
 Option.bind (some ([] : List Node)) fun l21 =>
 Option.bind (appG l21 v3.1.Nodes) fun l22 =>
 Option.bind (idxG v3.1.Nodes 0) fun x23 =>
 Option.bind (some [x23]) fun l24 =>
 Option.bind (appG l22 l24) fun l25 =>
 Option.bind (some ([] : List Decision)) fun l26 =>
 Option.bind (appG l26 v3.1.Leaves) fun l27 =>
 Option.bind (some [(Decision.mk false false false 0 (-1) (Ratio.mk 0 0) (Ratio.mk 0 0) (Ratio.mk 0 0) (Ratio.mk 0 0) (Ratio.mk 0 0) 0)]) fun l28 =>
 Option.bind (appG l27 l28) fun l29 =>
 Option.bind (some [(Table.mk l25 v3.1.Leaves), (Table.mk v3.1.Nodes l29)]) fun l30 =>
 Option.bind (appG list5 l30) fun list31 =>
 Option.bind (idxG v3.1.Nodes (io.rem (io.wrap .i64 a) (io.len (W eNode v3.1.Nodes)))) fun x32 =>
 Option.bind (
 bif (io.lt 1 (io.len (W eIi64 x32.Kids))) then (
 Option.bind (some ([] : List Int)) fun l34 =>
 Option.bind (appG l34 x32.Kids) fun kids35 =>
 Option.bind (rixG kids35 0) fun i36 =>
 Option.bind (kids35[i36]?) fun v37 =>
 Option.bind (rixG kids35 1) fun i38 =>
 Option.bind (updG kids35 i38 fun y39 => v37) fun l40 =>
 Option.bind (some ([] : List Node)) fun l41 =>
 Option.bind (appG l41 v3.1.Nodes) fun l42 =>
 Option.bind (rixG l42 (io.rem (io.wrap .i64 a) (io.len (W eNode v3.1.Nodes)))) fun i43 =>
 Option.bind (updG l42 i43 fun y44 => (Node.mk y44.Attr y44.Cuts l40 y44.Leaf)) fun l45 =>
 Option.bind (some [(Table.mk l45 v3.1.Leaves)]) fun l46 =>
 Option.bind (appG list31 l46) fun list47 =>
 some list47
 ) else (
 some list31
 )
 ) fun list33 =>
 orR (
 whileG (law14_TableOthers_l2 list33 f) 0
 ) fun _ =>
 some up1
 )
 )
end Go.SX.Td
namespace Go.SX.Td
open Go Go.SX Go.Proofs
set_option maxRecDepth 100000
def c10r0 : List GOp := [
 gv 4 (.box 24 (.tmp 0)),
 gv 7 (.box 38 (.tmp 3)),
 gv 8 (.mv (.const (.bool false)))]
def c10r1 : List GOp := [
 gv 22 (.call 22 []),
 gv 9 (.mv (.tmp 22))]
def c10r2 : List GOp := [
 gv 23 (.load 1 true (.tmp 4)),
 gv 24 (.call 23 [(.tmp 23)]),
 gv 25 (.un .not (.tmp 24))]
def c10r3 : List GOp := [
 gv 26 (.mv (.tmp 9)),
 gv 8 (.mv (.tmp 26))]
def c10r4 : List GOp := [
 gv 28 (.load 1 true (.tmp 4)),
 gv 29 (.call 24 [(.tmp 28)]),
 gv 27 (.mv (.tmp 29)),
 gv 30 (.ext (.tmp 27) 0),
 gv 31 (.ext (.tmp 27) 1),
 gv 10 (.alloc 28 (.agg #[(.slice none 0 0), (.slice none 0 0)])),
 ⟨none, .store 2 (.tmp 10) (.tmp 30), none⟩,
 gv 11 (.mv (.tmp 31))]
def c10r5 : List GOp := [
 gv 32 (.mv (.tmp 11)),
 gv 33 (.bin .neq (.tmp 32) (.const (.int .i64 0))),
 gv 34 (.mv (.tmp 33)),
 gw 35 34 false (.fadd 0 (.tmp 10)),
 gw 36 34 false (.load 1 false (.tmp 35)),
 gw 37 34 false (.len false (.tmp 36)),
 gw 38 34 false (.bin .eql (.tmp 37) (.const (.int .i64 0))),
 gv 39 (.pick (.tmp 34) (.const (.bool true)) (.tmp 38)),
 gv 40 (.mv (.tmp 39)),
 gw 41 40 false (.fadd 1 (.tmp 10)),
 gw 42 40 false (.load 1 false (.tmp 41)),
 gw 43 40 false (.len false (.tmp 42)),
 gw 44 40 false (.bin .eql (.tmp 43) (.const (.int .i64 0))),
 gv 45 (.pick (.tmp 40) (.const (.bool true)) (.tmp 44))]
def c10r6 : List GOp := [
 gv 46 (.mv (.tmp 9)),
 gv 47 (.mv (.tmp 46)),
 gw 48 47 true (.mv (.tmp 11)),
 gw 49 47 true (.bin .neq (.tmp 48) (.const (.int .i64 0))),
 gv 50 (.pick (.tmp 47) (.tmp 49) (.const (.bool false))),
 gv 8 (.mv (.tmp 50))]
def c10r7 : List GOp := [
 gv 51 (.mv (.tmp 1)),
 gv 52 (.cvi .i64 (.tmp 51)),
 gv 53 (.fadd 0 (.tmp 10)),
 gv 54 (.load 1 false (.tmp 53)),
 gv 55 (.len false (.tmp 54)),
 gv 56 (.div .rem (.tmp 52) (.tmp 55)),
 gv 12 (.mv (.tmp 56))]
def c10r8 : List GOp := [
 gv 57 (.mv (.tmp 2)),
 gv 58 (.cvi .i64 (.tmp 57)),
 gv 59 (.fadd 0 (.tmp 10)),
 gv 60 (.load 1 false (.tmp 59)),
 gv 61 (.len false (.tmp 60)),
 gv 62 (.div .rem (.tmp 58) (.tmp 61)),
 gv 13 (.mv (.tmp 62))]
def c10r9 : List GOp := [
 gv 14 (.mv (.const (.slice none 0 0)))]
def c10r10 : List GOp := [
 gv 63 (.mv (.tmp 12)),
 gv 64 (.mv (.tmp 13)),
 gv 65 (.bin .neq (.tmp 63) (.tmp 64)),
 gv 66 (.mv (.tmp 65)),
 gw 67 66 true (.fadd 0 (.tmp 10)),
 gw 68 66 true (.load 1 false (.tmp 67)),
 gw 69 66 true (.mv (.tmp 12)),
 gw 70 66 true (.idxA 4 (.tmp 68) (.tmp 69)),
 gw 71 66 true (.fadd 2 (.tmp 70)),
 gw 72 66 true (.load 1 false (.tmp 71)),
 gw 73 66 true (.len false (.tmp 72)),
 gw 74 66 true (.fadd 0 (.tmp 10)),
 gw 75 66 true (.load 1 false (.tmp 74)),
 gw 76 66 true (.mv (.tmp 13)),
 gw 77 66 true (.idxA 4 (.tmp 75) (.tmp 76)),
 gw 78 66 true (.fadd 2 (.tmp 77)),
 gw 79 66 true (.load 1 false (.tmp 78)),
 gw 80 66 true (.len false (.tmp 79)),
 gw 81 66 true (.bin .add (.tmp 73) (.tmp 80)),
 gw 82 66 true (.bin .eql (.tmp 81) (.const (.int .i64 0))),
 gv 83 (.pick (.tmp 66) (.tmp 82) (.const (.bool false)))]
def c10r11 : List GOp := [
 gv 84 (.bslice 64 4 0 (.agg #[oz, (.slice none 0 0), (.slice none 0 0), oz]) []),
 gv 85 (.fadd 0 (.tmp 10)),
 gv 86 (.load 1 false (.tmp 85)),
 gv 87 (.app 64 4 64 (.agg #[oz, (.slice none 0 0), (.slice none 0 0), oz]) (.tmp 84) (.tmp 86)),
 gv 88 (.fadd 1 (.tmp 10)),
 gv 89 (.load 1 false (.tmp 88)),
 gv 90 (.build (.agg #[(.slice none 0 0), (.slice none 0 0)]) [((0, 1), (.tmp 87)), ((1, 1), (.tmp 89))]),
 gv 15 (.alloc 28 (.agg #[(.slice none 0 0), (.slice none 0 0)])),
 ⟨none, .store 2 (.tmp 15) (.tmp 90), none⟩]
def c10r12 : List GOp := [
 gv 91 (.fadd 0 (.tmp 15)),
 gv 92 (.load 1 false (.tmp 91)),
 gv 93 (.mv (.tmp 12)),
 gv 94 (.fadd 0 (.tmp 10)),
 gv 95 (.load 1 false (.tmp 94)),
 gv 96 (.mv (.tmp 13)),
 gv 97 (.idxA 4 (.tmp 95) (.tmp 96)),
 gv 98 (.load 4 true (.tmp 97))]
def c10r12z : List GOp := [
 gv 99 (.idxA 4 (.tmp 92) (.tmp 93)),
 ⟨none, .store 4 (.tmp 99) (.tmp 98), none⟩]
def c10r13 : List GOp := [
 gv 100 (.fadd 0 (.tmp 15)),
 gv 101 (.load 1 false (.tmp 100)),
 gv 102 (.mv (.tmp 13)),
 gv 103 (.fadd 0 (.tmp 10)),
 gv 104 (.load 1 false (.tmp 103)),
 gv 105 (.mv (.tmp 12)),
 gv 106 (.idxA 4 (.tmp 104) (.tmp 105)),
 gv 107 (.load 4 true (.tmp 106))]
def c10r13z : List GOp := [
 gv 108 (.idxA 4 (.tmp 101) (.tmp 102)),
 ⟨none, .store 4 (.tmp 108) (.tmp 107), none⟩]
def c10r14 : List GOp := [
 gv 109 (.mv (.tmp 14)),
 gv 110 (.load 2 true (.tmp 15)),
 gv 111 (.bslice 28 2 1 (.agg #[(.slice none 0 0), (.slice none 0 0)]) [(0, (.tmp 110))]),
 gv 112 (.app 28 2 48 (.agg #[(.slice none 0 0), (.slice none 0 0)]) (.tmp 109) (.tmp 111)),
 gv 14 (.mv (.tmp 112))]
def c10r15 : List GOp := [
 gv 113 (.bslice 64 4 0 (.agg #[oz, (.slice none 0 0), (.slice none 0 0), oz]) []),
 gv 114 (.fadd 0 (.tmp 10)),
 gv 115 (.load 1 false (.tmp 114)),
 gv 116 (.app 64 4 64 (.agg #[oz, (.slice none 0 0), (.slice none 0 0), oz]) (.tmp 113) (.tmp 115)),
 gv 117 (.fadd 0 (.tmp 10)),
 gv 118 (.load 1 false (.tmp 117)),
 gv 119 (.idxA 4 (.tmp 118) (.const (.int .i64 0))),
 gv 120 (.load 4 true (.tmp 119)),
 gv 121 (.bslice 64 4 1 (.agg #[oz, (.slice none 0 0), (.slice none 0 0), oz]) [(0, (.tmp 120))]),
 gv 122 (.app 64 4 64 (.agg #[oz, (.slice none 0 0), (.slice none 0 0), oz]) (.tmp 116) (.tmp 121)),
 gv 123 (.fadd 1 (.tmp 10)),
 gv 124 (.load 1 false (.tmp 123)),
 gv 125 (.build (.agg #[(.slice none 0 0), (.slice none 0 0)]) [((0, 1), (.tmp 122)), ((1, 1), (.tmp 124))]),
 gv 16 (.alloc 28 (.agg #[(.slice none 0 0), (.slice none 0 0)])),
 ⟨none, .store 2 (.tmp 16) (.tmp 125), none⟩]
def c10r16 : List GOp := [
 gv 126 (.fadd 0 (.tmp 10)),
 gv 127 (.load 1 false (.tmp 126)),
 gv 128 (.bslice 45 16 0 (.agg #[(.bool false), (.bool false), (.bool false), oz, oz, oz, oz, oz, oz, oz, oz, oz, oz, oz, oz, oz]) []),
 gv 129 (.fadd 1 (.tmp 10)),
 gv 130 (.load 1 false (.tmp 129)),
 gv 131 (.app 45 16 112 (.agg #[(.bool false), (.bool false), (.bool false), oz, oz, oz, oz, oz, oz, oz, oz, oz, oz, oz, oz, oz]) (.tmp 128) (.tmp 130)),
 gv 132 (.build (.agg #[(.bool false), (.bool false), (.bool false), oz, oz, oz, oz, oz, oz, oz, oz, oz, oz, oz, oz, oz]) [((4, 1), (.const (.int .i64 (-1))))]),
 gv 133 (.bslice 45 16 1 (.agg #[(.bool false), (.bool false), (.bool false), oz, oz, oz, oz, oz, oz, oz, oz, oz, oz, oz, oz, oz]) [(0, (.tmp 132))]),
 gv 134 (.app 45 16 112 (.agg #[(.bool false), (.bool false), (.bool false), oz, oz, oz, oz, oz, oz, oz, oz, oz, oz, oz, oz, oz]) (.tmp 131) (.tmp 133)),
 gv 135 (.build (.agg #[(.slice none 0 0), (.slice none 0 0)]) [((0, 1), (.tmp 127)), ((1, 1), (.tmp 134))]),
 gv 17 (.alloc 28 (.agg #[(.slice none 0 0), (.slice none 0 0)])),
 ⟨none, .store 2 (.tmp 17) (.tmp 135), none⟩]
def c10r17 : List GOp := [
 gv 136 (.mv (.tmp 14)),
 gv 137 (.load 2 true (.tmp 16)),
 gv 138 (.load 2 true (.tmp 17)),
 gv 139 (.bslice 28 2 2 (.agg #[(.slice none 0 0), (.slice none 0 0)]) [(0, (.tmp 137)), (1, (.tmp 138))]),
 gv 140 (.app 28 2 48 (.agg #[(.slice none 0 0), (.slice none 0 0)]) (.tmp 136) (.tmp 139)),
 gv 14 (.mv (.tmp 140))]
def c10r18 : List GOp := [
 gv 141 (.fadd 0 (.tmp 10)),
 gv 142 (.load 1 false (.tmp 141)),
 gv 143 (.mv (.tmp 12)),
 gv 144 (.idxA 4 (.tmp 142) (.tmp 143)),
 gv 145 (.load 4 true (.tmp 144)),
 gv 18 (.alloc 64 (.agg #[oz, (.slice none 0 0), (.slice none 0 0), oz])),
 ⟨none, .store 4 (.tmp 18) (.tmp 145), none⟩]
def c10r19 : List GOp := [
 gv 146 (.fadd 2 (.tmp 18)),
 gv 147 (.load 1 false (.tmp 146)),
 gv 148 (.len false (.tmp 147)),
 gv 149 (.bin .gtr (.tmp 148) (.const (.int .i64 1)))]
def c10r20 : List GOp := [
 gv 150 (.bslice 3 1 0 oz []),
 gv 151 (.fadd 2 (.tmp 18)),
 gv 152 (.load 1 false (.tmp 151)),
 gv 153 (.app 3 1 8 oz (.tmp 150) (.tmp 152)),
 gv 19 (.mv (.tmp 153))]
def c10r21 : List GOp := [
 gv 154 (.mv (.tmp 19)),
 gv 155 (.mv (.tmp 19)),
 gv 156 (.idxA 1 (.tmp 155) (.const (.int .i64 0))),
 gv 157 (.load 1 false (.tmp 156)),
 gv 158 (.idxA 1 (.tmp 154) (.const (.int .i64 1))),
 ⟨none, .store 1 (.tmp 158) (.tmp 157), none⟩]
def c10r22 : List GOp := [
 gv 159 (.bslice 64 4 0 (.agg #[oz, (.slice none 0 0), (.slice none 0 0), oz]) []),
 gv 160 (.fadd 0 (.tmp 10)),
 gv 161 (.load 1 false (.tmp 160)),
 gv 162 (.app 64 4 64 (.agg #[oz, (.slice none 0 0), (.slice none 0 0), oz]) (.tmp 159) (.tmp 161)),
 gv 163 (.fadd 1 (.tmp 10)),
 gv 164 (.load 1 false (.tmp 163)),
 gv 165 (.build (.agg #[(.slice none 0 0), (.slice none 0 0)]) [((0, 1), (.tmp 162)), ((1, 1), (.tmp 164))]),
 gv 20 (.alloc 28 (.agg #[(.slice none 0 0), (.slice none 0 0)])),
 ⟨none, .store 2 (.tmp 20) (.tmp 165), none⟩]
def c10r23 : List GOp := [
 gv 166 (.fadd 0 (.tmp 20)),
 gv 167 (.load 1 false (.tmp 166)),
 gv 168 (.mv (.tmp 12)),
 gv 169 (.mv (.tmp 19)),
 gv 170 (.idxA 4 (.tmp 167) (.tmp 168)),
 gv 171 (.fadd 2 (.tmp 170)),
 ⟨none, .store 1 (.tmp 171) (.tmp 169), none⟩]
def c10r24 : List GOp := [
 gv 172 (.mv (.tmp 14)),
 gv 173 (.load 2 true (.tmp 20)),
 gv 174 (.bslice 28 2 1 (.agg #[(.slice none 0 0), (.slice none 0 0)]) [(0, (.tmp 173))]),
 gv 175 (.app 28 2 48 (.agg #[(.slice none 0 0), (.slice none 0 0)]) (.tmp 172) (.tmp 174)),
 gv 14 (.mv (.tmp 175))]
def c10r25 : List GOp := [
 gv 21 (.mv (.const (.int .i64 0)))]
def c10r26 : List GOp := [
 gv 176 (.mv (.tmp 21)),
 gv 177 (.mv (.tmp 14)),
 gv 178 (.len false (.tmp 177)),
 gv 179 (.bin .lss (.tmp 176) (.tmp 178))]
def c10r27 : List GOp := [
 gv 182 (.mv (.tmp 14)),
 gv 183 (.mv (.tmp 21)),
 gv 184 (.idxA 2 (.tmp 182) (.tmp 183)),
 gv 185 (.load 2 true (.tmp 184)),
 gv 186 (.call 17 [(.tmp 185)]),
 gv 187 (.mv (.tmp 186)),
 gw 188 187 false (.mv (.tmp 14)),
 gw 189 187 false (.mv (.tmp 21)),
 gw 190 187 false (.idxA 2 (.tmp 188) (.tmp 189)),
 gw 191 187 false (.load 2 true (.tmp 190)),
 gw 192 187 false (.load 10 true (.tmp 7)),
 gw 193 187 false (.call 20 [(.tmp 191), (.tmp 192)]),
 gw 194 187 false (.build (.agg #[(.bool false), (.bool false), (.bool false), oz, oz, oz, oz, oz, oz, oz, oz, oz, oz, oz, oz, oz]) []),
 gw 195 187 false (.beq true [.bool, .bool, .bool, .int, .int, .int, .int, .int, .int, .int, .int, .int, .int, .int, .int, .int] (.tmp 193) (.tmp 194)),
 gv 196 (.pick (.tmp 187) (.const (.bool true)) (.tmp 195))]
def c10r28 : List GOp := [
 gv 8 (.mv (.const (.bool false)))]
def c10r29 : List GOp := [
 gv 180 (.mv (.tmp 21)),
 gv 181 (.bin .add (.tmp 180) (.const (.int .i64 1))),
 gv 21 (.mv (.tmp 181))]
def c10l30 : DE := .seq (.seq (.reg c10r26) (.cond (.tmp 179) (.skip) (.exit 0))) (.seq (.block 1 (.join (.par false false false 13 c10r27) (.cond (.tmp 196) (.seq (.reg c10r28) (.ret)) (.skip)))) (.reg c10r29))
def c10r31 : List GOp := [
 gv 197 (.mv (.tmp 9)),
 gv 8 (.mv (.tmp 197))]
def c10 : EFn := ⟨198, .seq (.reg c10r0) (.seq (.reg c10r1) (.seq (.seq (.reg c10r2) (.cond (.tmp 25) (.seq (.reg c10r3) (.ret)) (.skip))) (.seq (.reg c10r4) (.seq (.join (.reg c10r5) (.cond (.tmp 45) (.seq (.reg c10r6) (.ret)) (.skip))) (.seq (.reg c10r7) (.seq (.reg c10r8) (.seq (.reg c10r9) (.join (.join (.par true true true 18 c10r10) (.cond (.tmp 83) (.seq (.hyb true true 8 c10r11) (.seq (.sfx true true true c10r12 c10r12z) (.seq (.sfx true true true c10r13 c10r13z) (.reg c10r14)))) (.skip))) (.seq (.hyb true true 14 c10r15) (.seq (.hyb true true 11 c10r16) (.seq (.reg c10r17) (.seq (.reg c10r18) (.join (.seq (.reg c10r19) (.cond (.tmp 149) (.seq (.reg c10r20) (.seq (.reg c10r21) (.seq (.hyb true true 8 c10r22) (.seq (.reg c10r23) (.reg c10r24))))) (.skip))) (.join (.seq (.reg c10r25) (.block 0 (.loop c10l30))) (.seq (.reg c10r31) (.ret)))))))))))))))), [.tmp 8]⟩
theorem c10_ok : compF Tryd.prog 10 = some c10.er := by kernel_rfl
set_option maxHeartbeats 4000000 in
theorem law14_TableOthers_R {P : Program} (hP : P = Tryd.prog) (p : Policy) (a : Int) (b : Int) (f : (A10 Int)) (r : Bool) (h : law14_TableOthers_g p a b f = some r) : Fn1 P 10 [vPolicy p, vIu8 a, vIu8 b, vA10Ii64 f] (vB r) := by
 refine .walkE (hP ▸ c10_ok) fun K hK => ?_;unfold law14_TableOthers_g at h;cbv;refine .g h (fun v hv => law14_head_R hP v hv) aw_ rfl (fun _ => rfl) fun up1 h => ?_;cbv;refine .g h (fun v hv => ref14_Few_R hP _ v hv) aw_ rfl (fun _ => rfl) fun v2 h => ?_;cbv;refine brkG h ?_ ?_ <;> intro h
 ·cbv;obtain rfl := oj h;exact hK _ _ aw_
 ·cbv;refine .g h (fun v hv => table_Build_R hP _ v hv) aw_ rfl (fun _ => rfl) fun v3 h => ?_;cbv;refine .g h (fun (v4 : Bool) => [.top, .d (.val (.int .u8 a)), .d (.val (.int .u8 b))] ++ rp 4 .top ++ [.ptr 0 0, .top, ob up1, .ptr 1 0, oi v3.2] ++ rp 33 .top ++ [ob v4] ++ rp 152 .top) (fun v4 => [.cells (ca f) 38, .cells [.d (.sl (W eNode v3.1.Nodes)), .d (.sl (W eDecision v3.1.Leaves))] 28]) (fun y hm Kn1 hKn1 => ?_) fun t h => ?_
  ·have h := hm;clear hm;cbv;refine brkG h ?_ ?_ <;> intro h
   ·cbv;obtain rfl := oj h;refine hKn1 _ _ _ rfl (.nz (.mtE [1, 2] ?_));(cbv; repeat (refine ⟨an_, ?_⟩; cbv))
   ·cbv;refine brkG h ?_ ?_ <;> intro h
    ·cbv;obtain rfl := oj h;refine hKn1 _ _ _ rfl (.nz (.mtE [1, 2] ?_));(cbv; repeat (refine ⟨an_, ?_⟩; cbv))
    ·cbv;obtain rfl := oj h;refine hKn1 _ _ _ rfl (.nz (.mtE [1, 2] ?_));(cbv; repeat (refine ⟨an_, ?_⟩; cbv))
  obtain ⟨v4, rfl⟩ := ez t;cbv;refine brkG h ?_ ?_ <;> intro h
  ·cbv;refine brkG h ?_ ?_ <;> intro h
   ·cbv;obtain rfl := oj h;exact hK _ _ aw_
   ·cbv;obtain rfl := oj h;exact hK _ _ aw_
  ·cbv;refine .g h fun h => ?_;cbv;refine .g h fun h => ?_;cbv;refine .g h (fun (list5 : (List Table)) => rp 7 .top ++ [.ptr 0 0, .top, ob up1, .ptr 1 0, .top, oi (io.rem (io.wrap .i64 a) (io.len (W eNode v3.1.Nodes))), .top, .hd 2] ++ rp 183 .top) (fun list5 => [.cells (ca f) 38, .cells [.d (.sl (W eNode v3.1.Nodes)), .d (.sl (W eDecision v3.1.Leaves))] 28, .row 28 2 (W eTable list5)]) (fun y hm Kn1 hKn1 => ?_) fun t h => ?_
   ·have h := hm;clear hm;cbv;refine .g h (fun (v6 : Bool) => rp 7 .top ++ [.ptr 0 0, .top, ob up1, .ptr 1 0, .top, oi (io.rem (io.wrap .i64 a) (io.len (W eNode v3.1.Nodes))), oi (io.rem (io.wrap .i64 b) (io.len (W eNode v3.1.Nodes))), .d (.val (.slice none 0 0))] ++ rp 68 .top ++ [ob v6] ++ rp 114 .top) (fun v6 => [.cells (ca f) 38, .cells [.d (.sl (W eNode v3.1.Nodes)), .d (.sl (W eDecision v3.1.Leaves))] 28]) (fun y hm Kn2 hKn2 => ?_) fun t h => ?_
    ·have h := hm;clear hm;cbv;refine brkG h ?_ ?_ <;> intro h
     ·cbv;refine .g h (fun _ => rfl) fun x7 h => ?_;cbv;refine .g h (fun _ => rfl) fun x8 h => ?_;cbv;obtain rfl := oj h;refine hKn2 _ _ _ rfl (.nz0 (.mtE [0, 1] ?_));(cbv; repeat (refine ⟨an_, ?_⟩; cbv))
     ·cbv;obtain rfl := oj h;refine hKn2 _ _ _ rfl (.nz0 (.mtE [0, 1] ?_));(cbv; repeat (refine ⟨an_, ?_⟩; cbv))
    obtain ⟨v6, rfl⟩ := ez t;cbv;refine brkG h ?_ ?_ <;> intro h
    ·cbv;refine .g (e := eNode) h (W_nil' _) fun l9 h => ?_;cbv;refine .g h rfl (fun _ => rfl) (by decide) fun l10 h => ?_;cbv;refine .g h (fun _ => rfl) fun x11 h => ?_;cbv;refine .g h fun i12 h => ?_;cbv;refine .g h (fun _ => by first | rfl | exact W_nil _ | (cbv; simp only [W_nilx])) fun l14 h => ?_;cbv;refine .g h (fun _ => rfl) fun x15 h => ?_;cbv;refine .g h fun ix16 h => ?_;cbv;refine .g h (fun _ => by first | rfl | exact W_nil _ | (cbv; simp only [W_nilx])) fun l18 h => ?_;cbv;refine .g (e := eTable) h (W_cons aw_ (W_nil' _)) fun l19 h => ?_;cbv;refine .g0 h rfl (fun _ => rfl) (by decide) fun list20 h => ?_;cbv;obtain rfl := oj h;refine hKn1 _ _ _ rfl (.nz (.mtE [0, 1, 6] ?_));(cbv; repeat (refine ⟨an_, ?_⟩; cbv))
    ·cbv;obtain rfl := oj h;refine hKn1 _ _ _ rfl (.nilr 14 28 2 rfl (.nz (.mtE [0, 1, 2] ?_)));(cbv; repeat (refine ⟨an_, ?_⟩; cbv))
   obtain ⟨list5, rfl⟩ := ez t;cbv;refine .g (e := eNode) h (W_nil' _) fun l21 h => ?_;cbv;refine .g h rfl (fun _ => rfl) (by decide) fun l22 h => ?_;cbv;refine .g h (fun _ => rfl) fun x23 h => ?_;cbv;refine .g (e := eNode) h (W_cons aw_ (W_nil' _)) fun l24 h => ?_;cbv;refine .g h rfl (fun _ => rfl) (by decide) fun l25 h => ?_;cbv;refine .g (e := eDecision) h (W_nil' _) fun l26 h => ?_;cbv;refine .g h rfl (fun _ => rfl) (by decide) fun l27 h => ?_;cbv;refine .g (e := eDecision) h (W_cons aw_ (W_nil' _)) fun l28 h => ?_;cbv;refine .g h rfl (fun _ => rfl) (by decide) fun l29 h => ?_;cbv;refine .g (e := eTable) h (W_cons aw_ (W_cons aw_ (W_nil' _))) fun l30 h => ?_;cbv;refine .g h rfl (fun _ => rfl) (by decide) fun list31 h => ?_;cbv;refine .g h (fun _ => rfl) fun x32 h => ?_;cbv;refine .g h (fun (list33 : (List Table)) => rp 7 .top ++ [.ptr 0 0, .top, ob up1] ++ rp 4 .top ++ [.hd 1] ++ rp 183 .top) (fun list33 => [.cells (ca f) 38, .row 28 2 (W eTable list33)]) (fun y hm Kn1 hKn1 => ?_) fun t h => ?_
   ·have h := hm;clear hm;cbv;refine brkG h ?_ ?_ <;> intro h
    ·cbv;refine .g (e := eIi64) h (W_nil' _) fun l34 h => ?_;cbv;refine .g h rfl (fun _ => rfl) (by decide) fun kids35 h => ?_;cbv;refine .g h fun i36 h => ?_;cbv;refine .g h fun v37 h => ?_;cbv;refine .g h fun i38 h => ?_;cbv;refine .g h (fun _ => by first | rfl | exact W_nil _ | (cbv; simp only [W_nilx])) fun l40 h => ?_;cbv;refine .g (e := eNode) h (W_nil' _) fun l41 h => ?_;cbv;refine .g h rfl (fun _ => rfl) (by decide) fun l42 h => ?_;cbv;refine .g h fun i43 h => ?_;cbv;refine .g h (fun _ => by first | rfl | exact W_nil _ | (cbv; simp only [W_nilx])) fun l45 h => ?_;cbv;refine .g (e := eTable) h (W_cons aw_ (W_nil' _)) fun l46 h => ?_;cbv;refine .g h rfl (fun _ => rfl) (by decide) fun list47 h => ?_;cbv;obtain rfl := oj h;refine hKn1 _ _ _ rfl (.nz (.mtE [0, 20] ?_));(cbv; repeat (refine ⟨an_, ?_⟩; cbv))
    ·cbv;obtain rfl := oj h;refine hKn1 _ _ _ rfl (.nz (.mtE [0, 12] ?_));(cbv; repeat (refine ⟨an_, ?_⟩; cbv))
   obtain ⟨list33, rfl⟩ := ez t;cbv;refine .ga h (fun (_ : Unit) => rp 9 .top ++ [ob up1] ++ rp 188 .top) (fun _ => []) (fun y hm hr1 Kn1 hKn1 => ?_) fun t h => ?_
   ·have h := hm;clear hm;cbv;refine .g h (fun (m48 : Int) => rp 7 .top ++ [.ptr 0 0, .top, ob up1] ++ rp 4 .top ++ [.hd 1] ++ rp 6 .top ++ [oi m48] ++ rp 176 .top) (fun m48 => [.cells (ca f) 38, .row 28 2 (W eTable list33)]) (.nz (.mtE [0, 1] ?_)) fun s x h hr2 Kn2 hKn2 => ?_
    ·(cbv; repeat (refine ⟨an_, ?_⟩; cbv))
    unfold law14_TableOthers_l2 at h;obtain ⟨m48, rfl⟩ := ez s;cbv;refine brkG h ?_ ?_ <;> intro h
    ·cbv;refine .g h (fun (v49 : Bool) => rp 7 .top ++ [.ptr 0 0, .top, ob up1] ++ rp 4 .top ++ [.hd 1] ++ rp 6 .top ++ [oi m48] ++ rp 174 .top ++ [ob v49, .top]) (fun v49 => [.cells (ca f) 38, .row 28 2 (W eTable list33)]) (fun y hm Kn3 hKn3 => ?_) fun t h => ?_
     ·have h := hm;clear hm;cbv;refine .g h fun i50 h => ?_;cbv;refine .g h fun v51 h => ?_;cbv;refine .g h (fun v hv => table_Valid_R hP _ v hv) aw_ rfl (fun _ => rfl) fun v52 h => ?_;cbv;refine brkG h ?_ ?_ <;> intro h
      ·cbv;obtain rfl := oj h;refine hKn3 _ _ _ rfl (.nz (.mtE [0, 1] ?_));(cbv; repeat (refine ⟨an_, ?_⟩; cbv))
      ·cbv;refine .g h fun i53 h => ?_;cbv;refine .g h fun v54 h => ?_;cbv;refine .g h (fun v hv => table_Lookup_R hP _ _ v hv) aw_ rfl (fun _ => rfl) fun v55 h => ?_;cbv;obtain rfl := oj h;refine hKn3 _ _ _ rfl (.nz (.mtE [0, 1] ?_));(cbv; repeat (refine ⟨an_, ?_⟩; cbv))
     obtain ⟨v49, rfl⟩ := ez t;cbv;refine brkG h ?_ ?_ <;> intro h
     ·cbv;obtain rfl := oj h;obtain rfl := hr2 _ rfl;obtain rfl := hr1 _ rfl;exact hK _ _ aw_
     ·cbv;obtain rfl := oj h;refine hKn2 _ _ _ rfl (.nz (.mtE [0, 1] ?_));(cbv; repeat (refine ⟨an_, ?_⟩; cbv))
    ·cbv;obtain rfl := oj h;obtain rfl := hr2 _ rfl;refine hKn1 _ _ _ rfl (.nz (.mtE [] ?_));(cbv; repeat (refine ⟨an_, ?_⟩; cbv))
   cbv;obtain rfl := oj h;exact hK _ _ aw_
end Go.SX.Td
