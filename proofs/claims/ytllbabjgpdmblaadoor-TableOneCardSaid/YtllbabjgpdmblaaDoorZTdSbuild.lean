/- Parts of the proof. -/
import Derived.Test.YtllbabjgpdmblaaDoorZTdT
import Derived.Test.YtllbabjgpdmblaaDoorZTd19
import Derived.Test.YtllbabjgpdmblaaDoorZTdCompact
import Derived.Test.YtllbabjgpdmblaaDoorZTdBuilder
set_option linter.unusedSimpArgs false
set_option linter.unusedVariables false
set_option linter.unusedSectionVars false
namespace Go.SX.Td
open Go Go.SX Go.Proofs
set_option maxRecDepth 100000
def c56r0 : List GOp:=[
 gv 3 (.box 64 (.tmp 1)),
 gv 4 (.mv (.const (.int .i64 0)))]
def c56r1 : List GOp:=[
 gv 8 (.fadd 1 (.tmp 3)),
 gv 9 (.load 1 false (.tmp 8)),
 gv 10 (.fadd 2 (.tmp 3)),
 gv 11 (.load 1 false (.tmp 10)),
 gv 12 (.fadd 0 (.tmp 3)),
 gv 13 (.load 1 false (.tmp 12)),
 gv 14 (.fadd 3 (.tmp 3)),
 gv 15 (.load 1 false (.tmp 14)),
 gv 16 (.bslice 3 1 2 oz [(0,(.tmp 13)),(1,(.tmp 15))]),
 gv 17 (.bslice 62 1 3 (.slice none 0 0) [(0,(.tmp 9)),(1,(.tmp 11)),(2,(.tmp 16))]),
 gv 18 (.call 38 [(.tmp 17)]),
 gv 5 (.mv (.tmp 18))]
def c56r2 : List GOp:=[
 gv 20 (.mv (.tmp 0)),
 gv 21 (.nilck (.tmp 20)),
 gv 22 (.fadd 2 (.tmp 21)),
 gv 23 (.load 1 false (.tmp 22)),
 gv 24 (.mv (.tmp 5)),
 gv 25 (.mget .str false true oz (.tmp 23) (.tmp 24)),
 gv 19 (.mv (.tmp 25)),
 gv 26 (.ext (.tmp 19) 0),
 gv 27 (.ext (.tmp 19) 1),
 gv 6 (.mv (.tmp 26)),
 gv 7 (.mv (.tmp 27))]
def c56r3 : List GOp:=[
 gv 28 (.mv (.tmp 7))]
def c56r4 : List GOp:=[
 gv 29 (.mv (.tmp 6)),
 gv 4 (.mv (.tmp 29))]
def c56r5 : List GOp:=[
 gv 30 (.mv (.tmp 0)),
 gv 31 (.mv (.tmp 0)),
 gv 32 (.nilck (.tmp 31)),
 gv 33 (.fadd 0 (.tmp 32)),
 gv 34 (.load 1 false (.tmp 33)),
 gv 35 (.load 4 true (.tmp 3)),
 gv 36 (.bslice 64 4 1 (.agg #[oz,(.slice none 0 0),(.slice none 0 0),oz]) [(0,(.tmp 35))]),
 gv 37 (.app 64 4 64 (.agg #[oz,(.slice none 0 0),(.slice none 0 0),oz]) (.tmp 34) (.tmp 36)),
 gv 38 (.nilck (.tmp 30)),
 gv 39 (.fadd 0 (.tmp 38))]
def c56r5z : GOp:=⟨none,.store 1 (.tmp 39) (.tmp 37),none⟩
def c56r6 : List GOp:=[
 gv 40 (.mv (.tmp 0)),
 gv 41 (.nilck (.tmp 40)),
 gv 42 (.fadd 2 (.tmp 41)),
 gv 43 (.load 1 false (.tmp 42)),
 gv 44 (.mv (.tmp 5)),
 gv 45 (.mv (.tmp 0)),
 gv 46 (.nilck (.tmp 45)),
 gv 47 (.fadd 0 (.tmp 46)),
 gv 48 (.load 1 false (.tmp 47)),
 gv 49 (.len false (.tmp 48)),
 gv 50 (.bin .sub (.tmp 49) (.const (.int .i64 1)))]
def c56r6z : List GOp:=[
 ⟨none,.mset .str false (.tmp 43) (.tmp 44) (.tmp 50),none⟩]
def c56r7 : List GOp:=[
 gv 51 (.mv (.tmp 0)),
 gv 52 (.nilck (.tmp 51)),
 gv 53 (.fadd 0 (.tmp 52)),
 gv 54 (.load 1 false (.tmp 53)),
 gv 55 (.len false (.tmp 54)),
 gv 56 (.bin .sub (.tmp 55) (.const (.int .i64 1))),
 gv 4 (.mv (.tmp 56))]
def c56 : EFn:=⟨57,.seq (.reg c56r0) (.seq (.reg c56r1) (.seq (.seq (.reg c56r2) (.seq (.reg c56r3) (.cond (.tmp 28) (.seq (.reg c56r4) (.ret)) (.skip)))) (.seq (.hyl true true 8 c56r5 c56r5z) (.seq (.sfx true true true c56r6 c56r6z) (.seq (.reg c56r7) (.ret)))))),[.tmp 4]⟩
theorem c56_ok : compF Tryd.prog 56=some c56.er:=by kernel_rfl
def c55r0 : List GOp:=[
 gv 10 (.box 38 (.tmp 2)),
 gv 11 (.mv (.const (.int .i64 0)))]
def c55r1 : List GOp:=[
 gv 32 (.mv (.tmp 0)),
 gv 33 (.bin .eql (.tmp 32) (.const (.int .i64 10)))]
def c55r2 : List GOp:=[
 gv 34 (.load 1 true (.tmp 3)),
 gv 35 (.load 10 true (.tmp 10)),
 gv 36 (.call 19 [(.tmp 34),(.tmp 35)]),
 gv 12 (.alloc 45 (.agg #[(.bool false),(.bool false),(.bool false),oz,oz,oz,oz,oz,oz,oz,oz,oz,oz,oz,oz,oz])),
 ⟨none,.store 16 (.tmp 12) (.tmp 36),none⟩]
def c55r3 : List GOp:=[
 gv 38 (.load 1 false (.tmp 4)),
 gv 39 (.nilck (.tmp 38)),
 gv 40 (.fadd 4 (.tmp 39)),
 gv 41 (.load 1 false (.tmp 40)),
 gv 42 (.load 16 true (.tmp 12)),
 gv 43 (.mget (.agg [.bool,.bool,.bool,.int,.int,.int,.int,.int,.int,.int,.int,.int,.int,.int,.int,.int]) false true oz (.tmp 41) (.tmp 42)),
 gv 37 (.mv (.tmp 43)),
 gv 44 (.ext (.tmp 37) 0),
 gv 45 (.ext (.tmp 37) 1),
 gv 13 (.mv (.tmp 44)),
 gv 14 (.mv (.tmp 45))]
def c55r4 : List GOp:=[
 gv 46 (.mv (.tmp 14)),
 gv 47 (.un .not (.tmp 46))]
def c55r5 : List GOp:=[
 gv 48 (.load 1 false (.tmp 4)),
 gv 49 (.nilck (.tmp 48)),
 gv 50 (.fadd 4 (.tmp 49)),
 gv 51 (.load 1 false (.tmp 50)),
 gv 52 (.load 16 true (.tmp 12)),
 gv 53 (.load 1 false (.tmp 4)),
 gv 54 (.nilck (.tmp 53)),
 gv 55 (.fadd 1 (.tmp 54)),
 gv 56 (.load 1 false (.tmp 55)),
 gv 57 (.len false (.tmp 56))]
def c55r5z : List GOp:=[
 ⟨none,.mset (.agg [.bool,.bool,.bool,.int,.int,.int,.int,.int,.int,.int,.int,.int,.int,.int,.int,.int]) false (.tmp 51) (.tmp 52) (.tmp 57),none⟩]
def c55r6 : List GOp:=[
 gv 58 (.load 1 false (.tmp 4)),
 gv 59 (.load 1 false (.tmp 4)),
 gv 60 (.nilck (.tmp 59)),
 gv 61 (.fadd 1 (.tmp 60)),
 gv 62 (.load 1 false (.tmp 61)),
 gv 63 (.load 16 true (.tmp 12)),
 gv 64 (.bslice 45 16 1 (.agg #[(.bool false),(.bool false),(.bool false),oz,oz,oz,oz,oz,oz,oz,oz,oz,oz,oz,oz,oz]) [(0,(.tmp 63))]),
 gv 65 (.app 45 16 112 (.agg #[(.bool false),(.bool false),(.bool false),oz,oz,oz,oz,oz,oz,oz,oz,oz,oz,oz,oz,oz]) (.tmp 62) (.tmp 64)),
 gv 66 (.nilck (.tmp 58)),
 gv 67 (.fadd 1 (.tmp 66))]
def c55r6z : GOp:=⟨none,.store 1 (.tmp 67) (.tmp 65),none⟩
def c55r7 : List GOp:=[
 gv 68 (.load 1 false (.tmp 4)),
 gv 69 (.load 1 false (.tmp 4)),
 gv 70 (.nilck (.tmp 69)),
 gv 71 (.fadd 4 (.tmp 70)),
 gv 72 (.load 1 false (.tmp 71)),
 gv 73 (.load 16 true (.tmp 12)),
 gv 74 (.mget (.agg [.bool,.bool,.bool,.int,.int,.int,.int,.int,.int,.int,.int,.int,.int,.int,.int,.int]) false false oz (.tmp 72) (.tmp 73)),
 gv 75 (.build (.agg #[oz,(.slice none 0 0),(.slice none 0 0),oz]) [((3,1),(.tmp 74))])]
def c55r7z : List GOp:=[
 gv 76 (.call 56 [(.tmp 68),(.tmp 75)]),
 gv 11 (.mv (.tmp 76))]
def c55r8 : List GOp:=[
 gv 77 (.mv (.tmp 1)),
 gv 78 (.mv (.tmp 0)),
 gv 79 (.bslice 3 1 1 oz [(0,(.tmp 78))]),
 gv 80 (.bslice 62 1 2 (.slice none 0 0) [(0,(.tmp 77)),(1,(.tmp 79))]),
 gv 81 (.call 38 [(.tmp 80)]),
 gv 15 (.mv (.tmp 81))]
def c55r9 : List GOp:=[
 gv 83 (.load 1 false (.tmp 4)),
 gv 84 (.nilck (.tmp 83)),
 gv 85 (.fadd 3 (.tmp 84)),
 gv 86 (.load 1 false (.tmp 85)),
 gv 87 (.mv (.tmp 15)),
 gv 88 (.mget .str false true oz (.tmp 86) (.tmp 87)),
 gv 82 (.mv (.tmp 88)),
 gv 89 (.ext (.tmp 82) 0),
 gv 90 (.ext (.tmp 82) 1),
 gv 16 (.mv (.tmp 89)),
 gv 17 (.mv (.tmp 90))]
def c55r10 : List GOp:=[
 gv 91 (.mv (.tmp 17)),
 gv 92 (.mv (.tmp 91)),
 gw 93 92 false (.load 1 false (.tmp 4)),
 gw 94 92 false (.nilck (.tmp 93)),
 gw 95 92 false (.fadd 0 (.tmp 94)),
 gw 96 92 false (.load 1 false (.tmp 95)),
 gw 97 92 false (.len false (.tmp 96)),
 gw 98 92 false (.bin .gtr (.tmp 97) (.const (.int .i64 20000))),
 gv 99 (.pick (.tmp 92) (.const (.bool true)) (.tmp 98))]
def c55r11 : List GOp:=[
 gv 100 (.mv (.tmp 16)),
 gv 11 (.mv (.tmp 100))]
def c55r12 : List GOp:=[
 gv 101 (.mv (.tmp 0)),
 gv 102 (.idxP 10 2 (.tmp 5) (.tmp 101)),
 gv 103 (.fadd 0 (.tmp 102)),
 gv 104 (.load 1 false (.tmp 103)),
 gv 105 (.bslice 3 1 1 oz [(0,(.tmp 104))]),
 gv 18 (.mv (.tmp 105))]
def c55r13 : List GOp:=[
 gv 106 (.mv (.tmp 1)),
 gv 107 (.len false (.tmp 106)),
 gv 108 (.mv (.const (.int .i64 0)))]
def c55r14 : List GOp:=[
 gv 109 (.bin .lss (.tmp 108) (.tmp 107))]
def c55r15 : List GOp:=[
 gv 110 (.idxA 1 (.tmp 106) (.tmp 108)),
 gv 111 (.load 1 false (.tmp 110)),
 gv 20 (.mv (.tmp 111))]
def c55r16 : List GOp:=[
 gv 112 (.load 1 false (.tmp 6)),
 gv 113 (.mv (.tmp 20)),
 gv 114 (.mv (.tmp 0)),
 gv 115 (.idxA 20 (.tmp 112) (.tmp 113)),
 gv 116 (.idxP 10 2 (.tmp 115) (.tmp 114)),
 gv 117 (.fadd 0 (.tmp 116)),
 gv 118 (.load 1 false (.tmp 117)),
 gv 119 (.load 1 false (.tmp 6)),
 gv 120 (.mv (.tmp 20)),
 gv 121 (.mv (.tmp 0)),
 gv 122 (.idxA 20 (.tmp 119) (.tmp 120)),
 gv 123 (.idxP 10 2 (.tmp 122) (.tmp 121)),
 gv 124 (.fadd 1 (.tmp 123)),
 gv 125 (.load 1 false (.tmp 124)),
 gv 126 (.bin .add (.tmp 125) (.const (.int .i64 1))),
 gv 127 (.build (.agg #[oz,oz]) [((0,1),(.tmp 118)),((1,1),(.tmp 126))]),
 gv 128 (.mv (.const (.int .i64 0)))]
def c55r17 : List GOp:=[
 gv 129 (.bin .lss (.tmp 128) (.const (.int .i64 2)))]
def c55r18 : List GOp:=[
 gv 130 (.idxV 2 1 false (.tmp 127) (.tmp 128)),
 gv 22 (.mv (.tmp 130))]
def c55r19 : List GOp:=[
 gv 131 (.mv (.tmp 22)),
 gv 132 (.mv (.tmp 0)),
 gv 133 (.idxP 10 2 (.tmp 5) (.tmp 132)),
 gv 134 (.fadd 0 (.tmp 133)),
 gv 135 (.load 1 false (.tmp 134)),
 gv 136 (.bin .gtr (.tmp 131) (.tmp 135)),
 gv 137 (.mv (.tmp 136)),
 gw 138 137 true (.mv (.tmp 22)),
 gw 139 137 true (.mv (.tmp 0)),
 gw 140 137 true (.idxP 10 2 (.tmp 5) (.tmp 139)),
 gw 141 137 true (.fadd 1 (.tmp 140)),
 gw 142 137 true (.load 1 false (.tmp 141)),
 gw 143 137 true (.bin .leq (.tmp 138) (.tmp 142)),
 gv 144 (.pick (.tmp 137) (.tmp 143) (.const (.bool false)))]
def c55r20 : List GOp:=[
 gv 145 (.mv (.tmp 18)),
 gv 146 (.mv (.tmp 22)),
 gv 147 (.bslice 3 1 1 oz [(0,(.tmp 146))]),
 gv 148 (.app 3 1 8 oz (.tmp 145) (.tmp 147)),
 gv 18 (.mv (.tmp 148))]
def c55r21 : List GOp:=[
 gv 149 (.bin .add (.tmp 128) (.const (.int .i64 1))),
 gv 128 (.mv (.tmp 149))]
def c55l22 : DE:=.seq (.reg c55r17) (.seq (.cond (.tmp 129) (.skip) (.exit 2)) (.join (.block 3 (.join (.reg c55r18) (.join (.reg c55r19) (.cond (.tmp 144) (.reg c55r20) (.skip))))) (.reg c55r21)))
def c55r23 : List GOp:=[
 gv 150 (.bin .add (.tmp 108) (.const (.int .i64 1))),
 gv 108 (.mv (.tmp 150))]
def c55l24 : DE:=.seq (.reg c55r14) (.seq (.cond (.tmp 109) (.skip) (.exit 0)) (.join (.block 1 (.seq (.reg c55r15) (.join (.par true false true 17 c55r16) (.block 2 (.loop c55l22))))) (.reg c55r23)))
def c55r25 : List GOp:=[
 gv 151 (.mv (.tmp 18)),
 gv 152 (.call 57 [(.tmp 151)])]
def c55r26 : List GOp:=[
 gv 153 (.mv (.tmp 0)),
 gv 154 (.build (.agg #[oz,(.slice none 0 0),(.slice none 0 0),oz]) [((0,1),(.tmp 153))]),
 gv 23 (.alloc 64 (.agg #[oz,(.slice none 0 0),(.slice none 0 0),oz])),
 ⟨none,.store 4 (.tmp 23) (.tmp 154),none⟩]
def c55r27 : List GOp:=[
 gv 155 (.mv (.tmp 18)),
 gv 156 (.call 58 [(.tmp 155)]),
 gv 157 (.len false (.tmp 156)),
 gv 158 (.mv (.const (.int .i64 0)))]
def c55r28 : List GOp:=[
 gv 159 (.bin .lss (.tmp 158) (.tmp 157))]
def c55r29 : List GOp:=[
 gv 160 (.mv (.tmp 158)),
 gv 161 (.idxA 1 (.tmp 156) (.tmp 158)),
 gv 162 (.load 1 false (.tmp 161)),
 gv 24 (.mv (.tmp 160)),
 gv 25 (.mv (.tmp 162))]
def c55r30 : List GOp:=[
 gv 163 (.mv (.tmp 0)),
 gv 164 (.mv (.tmp 25)),
 gv 165 (.idxP 10 1 (.tmp 10) (.tmp 163)),
 ⟨none,.store 1 (.tmp 165) (.tmp 164),none⟩]
def c55r31 : List GOp:=[
 gv 26 (.mv (.const (.slice none 0 0)))]
def c55r32 : List GOp:=[
 gv 166 (.mv (.tmp 1)),
 gv 167 (.len false (.tmp 166)),
 gv 168 (.mv (.const (.int .i64 0)))]
def c55r33 : List GOp:=[
 gv 169 (.bin .lss (.tmp 168) (.tmp 167))]
def c55r34 : List GOp:=[
 gv 170 (.idxA 1 (.tmp 166) (.tmp 168)),
 gv 171 (.load 1 false (.tmp 170)),
 gv 28 (.mv (.tmp 171))]
def c55r35 : List GOp:=[
 gv 172 (.load 1 false (.tmp 6)),
 gv 173 (.mv (.tmp 28)),
 gv 174 (.mv (.tmp 0)),
 gv 175 (.idxA 20 (.tmp 172) (.tmp 173)),
 gv 176 (.idxP 10 2 (.tmp 175) (.tmp 174)),
 gv 177 (.load 2 true (.tmp 176)),
 gv 29 (.alloc 55 (.agg #[oz,oz])),
 ⟨none,.store 2 (.tmp 29) (.tmp 177),none⟩]
def c55r36 : List GOp:=[
 gv 178 (.fadd 0 (.tmp 29)),
 gv 179 (.load 1 false (.tmp 178)),
 gv 180 (.mv (.tmp 25)),
 gv 181 (.bin .leq (.tmp 179) (.tmp 180)),
 gv 182 (.mv (.tmp 181)),
 gw 183 182 true (.mv (.tmp 25)),
 gw 184 182 true (.fadd 1 (.tmp 29)),
 gw 185 182 true (.load 1 false (.tmp 184)),
 gw 186 182 true (.bin .leq (.tmp 183) (.tmp 185)),
 gv 187 (.pick (.tmp 182) (.tmp 186) (.const (.bool false)))]
def c55r37 : List GOp:=[
 gv 188 (.mv (.tmp 26)),
 gv 189 (.mv (.tmp 28)),
 gv 190 (.bslice 3 1 1 oz [(0,(.tmp 189))]),
 gv 191 (.app 3 1 8 oz (.tmp 188) (.tmp 190)),
 gv 26 (.mv (.tmp 191))]
def c55r38 : List GOp:=[
 gv 192 (.bin .add (.tmp 168) (.const (.int .i64 1))),
 gv 168 (.mv (.tmp 192))]
def c55l39 : DE:=.seq (.reg c55r33) (.seq (.cond (.tmp 169) (.skip) (.exit 6)) (.join (.block 7 (.seq (.reg c55r34) (.join (.reg c55r35) (.join (.reg c55r36) (.cond (.tmp 187) (.reg c55r37) (.skip)))))) (.reg c55r38)))
def c55r40 : List GOp:=[
 gv 193 (.load 1 false (.tmp 7)),
 gv 194 (.mv (.tmp 0)),
 gv 195 (.bin .add (.tmp 194) (.const (.int .i64 1))),
 gv 196 (.mv (.tmp 26)),
 gv 197 (.load 10 true (.tmp 10)),
 gv 198 (.callv (.tmp 193) [(.tmp 195),(.tmp 196),(.tmp 197)]),
 gv 30 (.mv (.tmp 198))]
def c55r41 : List GOp:=[
 gv 199 (.mv (.tmp 24)),
 gv 200 (.bin .gtr (.tmp 199) (.const (.int .i64 0))),
 gv 201 (.mv (.tmp 200)),
 gw 202 201 true (.fadd 2 (.tmp 23)),
 gw 203 201 true (.load 1 false (.tmp 202)),
 gw 204 201 true (.fadd 2 (.tmp 23)),
 gw 205 201 true (.load 1 false (.tmp 204)),
 gw 206 201 true (.len false (.tmp 205)),
 gw 207 201 true (.bin .sub (.tmp 206) (.const (.int .i64 1))),
 gw 208 201 true (.idxA 1 (.tmp 203) (.tmp 207)),
 gw 209 201 true (.load 1 false (.tmp 208)),
 gw 210 201 true (.mv (.tmp 30)),
 gw 211 201 true (.bin .eql (.tmp 209) (.tmp 210)),
 gv 212 (.pick (.tmp 201) (.tmp 211) (.const (.bool false)))]
def c55r42 : List GOp:=[
 gv 213 (.mv (.tmp 24)),
 gv 214 (.bin .gtr (.tmp 213) (.const (.int .i64 0)))]
def c55r43 : List GOp:=[
 gv 215 (.fadd 1 (.tmp 23)),
 gv 216 (.load 1 false (.tmp 215)),
 gv 217 (.mv (.tmp 25)),
 gv 218 (.bslice 3 1 1 oz [(0,(.tmp 217))]),
 gv 219 (.app 3 1 8 oz (.tmp 216) (.tmp 218)),
 gv 220 (.fadd 1 (.tmp 23)),
 ⟨none,.store 1 (.tmp 220) (.tmp 219),none⟩]
def c55r44 : List GOp:=[
 gv 221 (.fadd 2 (.tmp 23)),
 gv 222 (.load 1 false (.tmp 221)),
 gv 223 (.mv (.tmp 30)),
 gv 224 (.bslice 3 1 1 oz [(0,(.tmp 223))]),
 gv 225 (.app 3 1 8 oz (.tmp 222) (.tmp 224)),
 gv 226 (.fadd 2 (.tmp 23)),
 ⟨none,.store 1 (.tmp 226) (.tmp 225),none⟩]
def c55r45 : List GOp:=[
 gv 227 (.bin .add (.tmp 158) (.const (.int .i64 1))),
 gv 158 (.mv (.tmp 227))]
def c55l46 : DE:=.seq (.reg c55r28) (.seq (.cond (.tmp 159) (.skip) (.exit 4)) (.join (.block 5 (.seq (.reg c55r29) (.join (.reg c55r30) (.seq (.reg c55r31) (.join (.seq (.reg c55r32) (.block 6 (.loop c55l39))) (.join (.reg c55r40) (.seq (.join (.reg c55r41) (.cond (.tmp 212) (.exit 5) (.skip))) (.join (.seq (.reg c55r42) (.cond (.tmp 214) (.reg c55r43) (.skip))) (.reg c55r44))))))))) (.reg c55r45)))
def c55r47 : List GOp:=[
 gv 228 (.fadd 2 (.tmp 23)),
 gv 229 (.load 1 false (.tmp 228)),
 gv 230 (.idxA 1 (.tmp 229) (.const (.int .i64 0))),
 gv 231 (.load 1 false (.tmp 230)),
 gv 31 (.mv (.tmp 231))]
def c55r48 : List GOp:=[
 gv 232 (.fadd 2 (.tmp 23)),
 gv 233 (.load 1 false (.tmp 232)),
 gv 234 (.len false (.tmp 233)),
 gv 235 (.bin .gtr (.tmp 234) (.const (.int .i64 1)))]
def c55r49 : List GOp:=[
 gv 236 (.load 1 false (.tmp 4)),
 gv 237 (.load 4 true (.tmp 23)),
 gv 238 (.call 56 [(.tmp 236),(.tmp 237)]),
 gv 31 (.mv (.tmp 238))]
def c55r50 : List GOp:=[
 gv 239 (.load 1 false (.tmp 4)),
 gv 240 (.nilck (.tmp 239)),
 gv 241 (.fadd 3 (.tmp 240)),
 gv 242 (.load 1 false (.tmp 241)),
 gv 243 (.mv (.tmp 15)),
 gv 244 (.mv (.tmp 31)),
 ⟨none,.mset .str false (.tmp 242) (.tmp 243) (.tmp 244),none⟩]
def c55r51 : List GOp:=[
 gv 245 (.mv (.tmp 31)),
 gv 11 (.mv (.tmp 245))]
def c55 : EFn:=⟨246,.seq (.reg c55r0) (.seq (.seq (.reg c55r1) (.cond (.tmp 33) (.seq (.reg c55r2) (.join (.seq (.par true true true 10 c55r3) (.seq (.reg c55r4) (.cond (.tmp 47) (.seq (.sfx true true true c55r5 c55r5z) (.hyl true true 8 c55r6 c55r6z)) (.skip)))) (.seq (.sfx false false false c55r7 c55r7z) (.ret)))) (.skip))) (.seq (.reg c55r8) (.seq (.seq (.reg c55r9) (.join (.reg c55r10) (.cond (.tmp 99) (.seq (.reg c55r11) (.ret)) (.skip)))) (.join (.reg c55r12) (.join (.seq (.reg c55r13) (.block 0 (.loop c55l24))) (.join (.reg c55r25) (.seq (.reg c55r26) (.join (.join (.reg c55r27) (.block 4 (.loop c55l46))) (.seq (.reg c55r47) (.join (.seq (.reg c55r48) (.cond (.tmp 235) (.reg c55r49) (.skip))) (.seq (.reg c55r50) (.seq (.reg c55r51) (.ret))))))))))))),[.tmp 11]⟩
theorem c55_ok : compF Tryd.prog 55=some c55.er:=by kernel_rfl
set_option maxHeartbeats 8000000 in
theorem tbuild_R {P:Program}(hP:P=Tryd.prog)(rules:(List Rule))(limits:(A10 Range))(zones:(List (A10 Range)))(rec:(Int→(List Int)→(A10 Int)→(List Node)→(List Decision)→(List (ByteArray×Int))→(List (ByteArray×Int))→(List (Decision×Int))→Option (Int×(List Node)×(List Decision)×(List (ByteArray×Int))×(List (ByteArray×Int))×(List (Decision×Int)))))(attr:Int)(live:(List Int))(f:(A10 Int))(nodes:(List Node))(leaves:(List Decision))(kn:(List (ByteArray×Int)))(made:(List (ByteArray×Int)))(leaf:(List (Decision×Int)))(hrec:∀ attr live f nodes leaves kn made leaf r,rec attr live f nodes leaves kn made leaf=some r→SCall P 55 [.cells [.d (.sl (W eRule rules))] 24,.cells [.ptr 2 0] 100,.cells [.hd 3,.hd 4,.hd 5,.hd 6,.hd 7] 104,.row 64 4 (W eNode nodes),.row 45 16 (W eDecision leaves),.mp .str false (WM Value.string eIi64 kn),.mp .str false (WM Value.string eIi64 made),.mp (.agg [.bool,.bool,.bool,.int,.int,.int,.int,.int,.int,.int,.int,.int,.int,.int,.int,.int]) false (WM kwDecision eIi64 leaf),.cells (cR limits) 57,.cells [.d (.sl (W eA10Range zones))] 32,.cells [.clo (.func 55) [] [.ptr 0 0,.ptr 1 0,.ptr 8 0,.ptr 9 0,.ptr 10 0]] 105] [oi attr,.d (.sl (W eIi64 live)),.agg (ca f),.ptr 0 0,.ptr 1 0,.ptr 8 0,.ptr 9 0,.ptr 10 0] (fun sv own'=>sv=oi r.1∧own'=[.cells [.d (.sl (W eRule rules))] 24,.cells [.ptr 2 0] 100,.cells [.hd 11,.hd 12,.hd 5,.hd 6,.hd 7] 104,.gone,.gone,.mp .str false (WM Value.string eIi64 r.2.2.2.1),.mp .str false (WM Value.string eIi64 r.2.2.2.2.1),.mp (.agg [.bool,.bool,.bool,.int,.int,.int,.int,.int,.int,.int,.int,.int,.int,.int,.int,.int]) false (WM kwDecision eIi64 r.2.2.2.2.2),.cells (cR limits) 57,.cells [.d (.sl (W eA10Range zones))] 32,.cells [.clo (.func 55) [] [.ptr 0 0,.ptr 1 0,.ptr 8 0,.ptr 9 0,.ptr 10 0]] 105,.row 64 4 (W eNode r.2.1),.row 45 16 (W eDecision r.2.2.1)]))(r:Int×(List Node)×(List Decision)×(List (ByteArray×Int))×(List (ByteArray×Int))×(List (Decision×Int)))(h:tbuild_b rules limits zones rec attr live f nodes leaves kn made leaf=some r):SCall P 55 [.cells [.d (.sl (W eRule rules))] 24,.cells [.ptr 2 0] 100,.cells [.hd 3,.hd 4,.hd 5,.hd 6,.hd 7] 104,.row 64 4 (W eNode nodes),.row 45 16 (W eDecision leaves),.mp .str false (WM Value.string eIi64 kn),.mp .str false (WM Value.string eIi64 made),.mp (.agg [.bool,.bool,.bool,.int,.int,.int,.int,.int,.int,.int,.int,.int,.int,.int,.int,.int]) false (WM kwDecision eIi64 leaf),.cells (cR limits) 57,.cells [.d (.sl (W eA10Range zones))] 32,.cells [.clo (.func 55) [] [.ptr 0 0,.ptr 1 0,.ptr 8 0,.ptr 9 0,.ptr 10 0]] 105] [oi attr,.d (.sl (W eIi64 live)),.agg (ca f),.ptr 0 0,.ptr 1 0,.ptr 8 0,.ptr 9 0,.ptr 10 0] (fun sv own'=>sv=oi r.1∧own'=[.cells [.d (.sl (W eRule rules))] 24,.cells [.ptr 2 0] 100,.cells [.hd 11,.hd 12,.hd 5,.hd 6,.hd 7] 104,.gone,.gone,.mp .str false (WM Value.string eIi64 r.2.2.2.1),.mp .str false (WM Value.string eIi64 r.2.2.2.2.1),.mp (.agg [.bool,.bool,.bool,.int,.int,.int,.int,.int,.int,.int,.int,.int,.int,.int,.int,.int]) false (WM kwDecision eIi64 r.2.2.2.2.2),.cells (cR limits) 57,.cells [.d (.sl (W eA10Range zones))] 32,.cells [.clo (.func 55) [] [.ptr 0 0,.ptr 1 0,.ptr 8 0,.ptr 9 0,.ptr 10 0]] 105,.row 64 4 (W eNode r.2.1),.row 45 16 (W eDecision r.2.2.1)]):=by
 refine .walkG 11 rfl (Nat.le_of_ble_eq_true rfl) (hP▸c55_ok) fun K hK=>?_;unfold tbuild_b at h;cbv;refine brkG h ?_ ?_<;>intro h
 ·cbv;refine .g h (fun v hv=>decide_Decide_R hP _ _ v hv) aw_ rfl (fun _=>rfl) fun v1 h=>?_;cbv;refine .g h (fun ((leaves2,own3):(List Decision)×(List (Decision×Int)))=>List.replicate 4 .top++[.ptr 1 0]++List.replicate 7 .top++[.ptr 12 0]++List.replicate 233 .top) (fun (leaves2,own3)=>[.cells [.d (.sl (W eRule rules))] 24,.cells [.ptr 2 0] 100,.cells [.hd 3,.hd 11,.hd 5,.hd 6,.hd 7] 104,.row 64 4 (W eNode nodes),.gone,.mp .str false (WM Value.string eIi64 kn),.mp .str false (WM Value.string eIi64 made),.mp (.agg [.bool,.bool,.bool,.int,.int,.int,.int,.int,.int,.int,.int,.int,.int,.int,.int,.int]) false (WM kwDecision eIi64 own3),.cells (cR limits) 57,.cells [.d (.sl (W eA10Range zones))] 32,.cells [.clo (.func 55) [] [.ptr 0 0,.ptr 1 0,.ptr 8 0,.ptr 9 0,.ptr 10 0]] 105,.row 45 16 (W eDecision leaves2),.cells [.d (.val (.bool v1.Allowed)),.d (.val (.bool v1.Together)),.d (.val (.bool v1.Single)),oi v1.Limit,oi v1.Price,oi v1.Fee.Num,oi v1.Fee.Den,oi v1.Tax.Num,oi v1.Tax.Den,oi v1.Cap.Num,oi v1.Cap.Den,oi v1.Share.Num,oi v1.Share.Den,oi v1.Refund.Num,oi v1.Refund.Den,oi v1.By] 45]) (fun y hm Kn1 hKn1=>?_) fun t h=>?_
  ·have h:=hm;clear hm;cbv;refine .o kEqDecision (k:=v1) (e:=eIi64) h (by first | rfl | exact WM_nil' _ _) (fun y4 h=>?_) (fun h=>?_)
   ·cbv;refine brkG h ?_ ?_<;>intro h
    ·cbv;refine .gk kEqDecision (k:=v1) (e:=eIi64) h (by first | rfl | exact WM_nil' _ _) aw_ fun m5 h=>?_;cbv;refine .g (e:=eDecision) h (W_cons aw_ (W_nil' _)) fun l6 h=>?_;cbv;refine .g h rfl (fun _=>rfl) (by decide) fun l7 h=>?_;cbv;obtain rfl:=oj h;refine hKn1 _ _ _ rfl (.nz (.mtE [0,1,2,3,4,5,6,7,8,9,10,13,12] ?_));(cbv;repeat (refine⟨an_,?_⟩;cbv))
    ·cbv;obtain rfl:=oj h;refine hKn1 _ _ _ rfl (.nz (.mtE [0,1,2,3,4,5,6,7,8,9,10,4,12] ?_));(cbv;repeat (refine⟨an_,?_⟩;cbv))
   ·cbv;refine brkG h ?_ ?_<;>intro h
    ·cbv;refine .gk kEqDecision (k:=v1) (e:=eIi64) h (by first | rfl | exact WM_nil' _ _) aw_ fun m8 h=>?_;cbv;refine .g (e:=eDecision) h (W_cons aw_ (W_nil' _)) fun l9 h=>?_;cbv;refine .g h rfl (fun _=>rfl) (by decide) fun l10 h=>?_;cbv;obtain rfl:=oj h;refine hKn1 _ _ _ rfl (.nz (.mtE [0,1,2,3,4,5,6,7,8,9,10,13,12] ?_));(cbv;repeat (refine⟨an_,?_⟩;cbv))
    ·cbv;obtain rfl:=oj h;refine hKn1 _ _ _ rfl (.nz (.mtE [0,1,2,3,4,5,6,7,8,9,10,4,12] ?_));(cbv;repeat (refine⟨an_,?_⟩;cbv))
  obtain⟨leaves2,own3⟩:=t;cbv;refine .g kEqDecision (k:=v1) (e:=eIi64) h (by first | rfl | exact WM_nil' _ _) (fun h=>h) fun y11 h=>?_;cbv;refine .inl (hP▸c56_ok) ?_;cbv;refine .g (e:=eIi64) h (W_cons aw_ (W_cons aw_ (W_nil' _))) fun l12 h=>?_;cbv;refine .g (e:=eLIi64) h (W_cons aw_ (W_cons aw_ (W_cons aw_ (W_nil' _)))) fun l13 h=>?_;cbv;refine .gl [] h (fun v hv=>table_text_R hP _ v hv) aw_ rfl fun v14 h=>?_;cbv;refine .os (e:=eIi64) h (by first | rfl | exact WM_nil' _ _) (fun y15 h=>?_) (fun h=>?_)
  ·cbv;obtain rfl:=oj h;refine hK _ _ [0,1,2,3,4,5,6,7,8,9,10,3,11] ?_;(cbv;repeat (refine⟨an_,?_⟩;cbv))
  ·cbv;refine .g (e:=eNode) h (W_cons aw_ (W_nil' _)) fun l16 h=>?_;cbv;refine .g h rfl (fun _=>rfl) (by decide) fun l17 h=>?_;cbv;refine .gs (e:=eIi64) h (by first | rfl | exact WM_nil' _ _) aw_ fun m18 h=>?_;cbv;obtain rfl:=oj h;refine hK _ _ [0,1,2,3,4,5,6,7,8,9,10,16,11] ?_;(cbv;repeat (refine⟨an_,?_⟩;cbv))
 ·cbv;refine .g (e:=eIi64) h (W_cons aw_ (W_nil' _)) fun l19 h=>?_;cbv;refine .g (e:=eLIi64) h (W_cons aw_ (W_cons aw_ (W_nil' _))) fun l20 h=>?_;cbv;refine .gl [] h (fun v hv=>table_text_R hP _ v hv) aw_ rfl fun key21 h=>?_;cbv;refine .os (e:=eIi64) h (by first | rfl | exact WM_nil' _ _) (fun y22 h=>?_) (fun h=>?_)
  ·cbv;refine .g h (fun (_:Unit)=>[oi attr,.d (.sl (W eIi64 live)),.top,.top,.ptr 1 0,.ptr 8 0,.ptr 9 0,.ptr 10 0,.top,.top,.ptr 11 0]++List.replicate 4 .top++[.d (.val (.string key21)),oi y22]++List.replicate 82 .top++[.d (.val (.bool true))]++List.replicate 146 .top) (fun _=>[.cells [.d (.sl (W eRule rules))] 24,.cells [.ptr 2 0] 100,.cells [.hd 3,.hd 4,.hd 5,.hd 6,.hd 7] 104,.row 64 4 (W eNode nodes),.row 45 16 (W eDecision leaves),.mp .str false (WM Value.string eIi64 kn),.mp .str false (WM Value.string eIi64 made),.mp (.agg [.bool,.bool,.bool,.int,.int,.int,.int,.int,.int,.int,.int,.int,.int,.int,.int,.int]) false (WM kwDecision eIi64 leaf),.cells (cR limits) 57,.cells [.d (.sl (W eA10Range zones))] 32,.cells [.clo (.func 55) [] [.ptr 0 0,.ptr 1 0,.ptr 8 0,.ptr 9 0,.ptr 10 0]] 105,.cells (ca f) 38]) (fun y hm Kn1 hKn1=>?_) fun t h=>?_
   ·have h:=hm;clear hm;cbv;obtain rfl:=oj h;refine hKn1 _ _ _ rfl (.nz (.mtE [0,1,2,3,4,5,6,7,8,9,10,11] ?_));(cbv;repeat (refine⟨an_,?_⟩;cbv))
   cbv;obtain rfl:=oj h;refine hK _ _ [0,1,2,3,4,5,6,7,8,9,10,3,4] ?_;(cbv;repeat (refine⟨an_,?_⟩;cbv))
  ·cbv;refine .g h (fun (_:Unit)=>[oi attr,.d (.sl (W eIi64 live)),.top,.top,.ptr 1 0,.ptr 8 0,.ptr 9 0,.ptr 10 0,.top,.top,.ptr 11 0]++List.replicate 4 .top++[.d (.val (.string key21)),oi 0]++List.replicate 82 .top++[.d (.val (.bool (io.lt 20000 (io.len (W eNode nodes)))))]++List.replicate 146 .top) (fun _=>[.cells [.d (.sl (W eRule rules))] 24,.cells [.ptr 2 0] 100,.cells [.hd 3,.hd 4,.hd 5,.hd 6,.hd 7] 104,.row 64 4 (W eNode nodes),.row 45 16 (W eDecision leaves),.mp .str false (WM Value.string eIi64 kn),.mp .str false (WM Value.string eIi64 made),.mp (.agg [.bool,.bool,.bool,.int,.int,.int,.int,.int,.int,.int,.int,.int,.int,.int,.int,.int]) false (WM kwDecision eIi64 leaf),.cells (cR limits) 57,.cells [.d (.sl (W eA10Range zones))] 32,.cells [.clo (.func 55) [] [.ptr 0 0,.ptr 1 0,.ptr 8 0,.ptr 9 0,.ptr 10 0]] 105,.cells (ca f) 38]) (fun y hm Kn1 hKn1=>?_) fun t h=>?_
   ·have h:=hm;clear hm;cbv;obtain rfl:=oj h;refine hKn1 _ _ _ rfl (.nz (.mtE [0,1,2,3,4,5,6,7,8,9,10,11] ?_));(cbv;repeat (refine⟨an_,?_⟩;cbv))
   cbv;refine brkG h ?_ ?_<;>intro h
   ·cbv;obtain rfl:=oj h;refine hK _ _ [0,1,2,3,4,5,6,7,8,9,10,3,4] ?_;(cbv;repeat (refine⟨an_,?_⟩;cbv))
   ·cbv;refine .g h (fun (starts23:(List Int))=>[oi attr,.d (.sl (W eIi64 live)),.top,.top,.ptr 1 0,.ptr 8 0,.ptr 9 0,.ptr 10 0,.top,.top,.ptr 11 0]++List.replicate 4 .top++[.d (.val (.string key21)),.top,.top,.hd 12]++List.replicate 227 .top) (fun starts23=>[.cells [.d (.sl (W eRule rules))] 24,.cells [.ptr 2 0] 100,.cells [.hd 3,.hd 4,.hd 5,.hd 6,.hd 7] 104,.row 64 4 (W eNode nodes),.row 45 16 (W eDecision leaves),.mp .str false (WM Value.string eIi64 kn),.mp .str false (WM Value.string eIi64 made),.mp (.agg [.bool,.bool,.bool,.int,.int,.int,.int,.int,.int,.int,.int,.int,.int,.int,.int,.int]) false (WM kwDecision eIi64 leaf),.cells (cR limits) 57,.cells [.d (.sl (W eA10Range zones))] 32,.cells [.clo (.func 55) [] [.ptr 0 0,.ptr 1 0,.ptr 8 0,.ptr 9 0,.ptr 10 0]] 105,.cells (ca f) 38,.row 3 1 (W eIi64 starts23)]) (fun y hm Kn1 hKn1=>?_) fun t h=>?_
    ·have h:=hm;clear hm;cbv
     refine .c10 h ?_ ?_ ?_ ?_ ?_ ?_ ?_ ?_ ?_ ?_<;>(
      intro hni24 h;cbv;refine .g (e:=eIi64) h (W_cons aw_ (W_nil' _)) fun starts25 h=>?_;cbv;obtain rfl:=oj h;refine hKn1 _ _ _ rfl (.nz (.mtE [0,1,2,3,4,5,6,7,8,9,10,11,12] ?_));(cbv;repeat (refine⟨an_,?_⟩;cbv))
      )
    obtain⟨starts23,rfl⟩:=ez t;cbv;refine .g h (fun (starts26:(List Int))=>[oi attr,.d (.sl (W eIi64 live)),.top,.top,.ptr 1 0,.top,.ptr 9 0,.ptr 10 0,.top,.top,.ptr 11 0]++List.replicate 4 .top++[.d (.val (.string key21)),.top,.top,.hd 12]++List.replicate 227 .top) (fun starts26=>[.cells [.d (.sl (W eRule rules))] 24,.cells [.ptr 2 0] 100,.cells [.hd 3,.hd 4,.hd 5,.hd 6,.hd 7] 104,.row 64 4 (W eNode nodes),.row 45 16 (W eDecision leaves),.mp .str false (WM Value.string eIi64 kn),.mp .str false (WM Value.string eIi64 made),.mp (.agg [.bool,.bool,.bool,.int,.int,.int,.int,.int,.int,.int,.int,.int,.int,.int,.int,.int]) false (WM kwDecision eIi64 leaf),.cells (cR limits) 57,.cells [.d (.sl (W eA10Range zones))] 32,.cells [.clo (.func 55) [] [.ptr 0 0,.ptr 1 0,.ptr 8 0,.ptr 9 0,.ptr 10 0]] 105,.cells (ca f) 38,.row 3 1 (W eIi64 starts26)]) (fun y hm Kn1 hKn1=>?_) fun t h=>?_
    ·have h:=hm;clear hm;cbv;refine .g h (fun ((starts27,v28):(List Int)×Int)=>[oi attr,.d (.sl (W eIi64 live)),.top,.top,.ptr 1 0,.ptr 8 0,.ptr 9 0,.ptr 10 0,.top,.top,.ptr 11 0]++List.replicate 4 .top++[.d (.val (.string key21)),.top,.top,.hd 12]++List.replicate 87 .top++[.d (.sl (W eIi64 live)),oi (io.len (W eIi64 live)),oi v28]++List.replicate 137 .top) (fun (starts27,v28)=>[.cells [.d (.sl (W eRule rules))] 24,.cells [.ptr 2 0] 100,.cells [.hd 3,.hd 4,.hd 5,.hd 6,.hd 7] 104,.row 64 4 (W eNode nodes),.row 45 16 (W eDecision leaves),.mp .str false (WM Value.string eIi64 kn),.mp .str false (WM Value.string eIi64 made),.mp (.agg [.bool,.bool,.bool,.int,.int,.int,.int,.int,.int,.int,.int,.int,.int,.int,.int,.int]) false (WM kwDecision eIi64 leaf),.cells (cR limits) 57,.cells [.d (.sl (W eA10Range zones))] 32,.cells [.clo (.func 55) [] [.ptr 0 0,.ptr 1 0,.ptr 8 0,.ptr 9 0,.ptr 10 0]] 105,.cells (ca f) 38,.row 3 1 (W eIi64 starts27)]) (.nz (.mtE [0,1,2,3,4,5,6,7,8,9,10,11,12] ?_)) fun s x h hr2 Kn2 hKn2=>?_
     ·(cbv;repeat (refine⟨an_,?_⟩;cbv))
     unfold tbuild_l12 at h;obtain⟨starts27,v28⟩:=s;cbv;refine brkG h ?_ ?_<;>intro h
     ·cbv;refine .g h (fun (starts29:(List Int))=>[oi attr,.d (.sl (W eIi64 live)),.top,.top,.ptr 1 0,.ptr 8 0,.ptr 9 0,.ptr 10 0,.top,.top,.ptr 11 0]++List.replicate 4 .top++[.d (.val (.string key21)),.top,.top,.hd 12]++List.replicate 87 .top++[.d (.sl (W eIi64 live)),oi (io.len (W eIi64 live)),oi v28]++List.replicate 137 .top) (fun starts29=>[.cells [.d (.sl (W eRule rules))] 24,.cells [.ptr 2 0] 100,.cells [.hd 3,.hd 4,.hd 5,.hd 6,.hd 7] 104,.row 64 4 (W eNode nodes),.row 45 16 (W eDecision leaves),.mp .str false (WM Value.string eIi64 kn),.mp .str false (WM Value.string eIi64 made),.mp (.agg [.bool,.bool,.bool,.int,.int,.int,.int,.int,.int,.int,.int,.int,.int,.int,.int,.int]) false (WM kwDecision eIi64 leaf),.cells (cR limits) 57,.cells [.d (.sl (W eA10Range zones))] 32,.cells [.clo (.func 55) [] [.ptr 0 0,.ptr 1 0,.ptr 8 0,.ptr 9 0,.ptr 10 0]] 105,.cells (ca f) 38,.row 3 1 (W eIi64 starts29)]) (fun y hm Kn3 hKn3=>?_) fun t h=>?_
      ·have h:=hm;clear hm;cbv;refine .g h (fun _=>rfl) fun x30 h=>?_;cbv;refine .g h (fun (v31:(A2 Int))=>[oi attr,.d (.sl (W eIi64 live)),.top,.top,.ptr 1 0,.ptr 8 0,.ptr 9 0,.ptr 10 0,.top,.top,.ptr 11 0]++List.replicate 4 .top++[.d (.val (.string key21)),.top,.top,.hd 12]++List.replicate 87 .top++[.d (.sl (W eIi64 live)),oi (io.len (W eIi64 live)),oi v28]++List.replicate 18 .top++[.agg [oi v31.a0,oi v31.a1],oi 0]++List.replicate 117 .top) (fun v31=>[.cells [.d (.sl (W eRule rules))] 24,.cells [.ptr 2 0] 100,.cells [.hd 3,.hd 4,.hd 5,.hd 6,.hd 7] 104,.row 64 4 (W eNode nodes),.row 45 16 (W eDecision leaves),.mp .str false (WM Value.string eIi64 kn),.mp .str false (WM Value.string eIi64 made),.mp (.agg [.bool,.bool,.bool,.int,.int,.int,.int,.int,.int,.int,.int,.int,.int,.int,.int,.int]) false (WM kwDecision eIi64 leaf),.cells (cR limits) 57,.cells [.d (.sl (W eA10Range zones))] 32,.cells [.clo (.func 55) [] [.ptr 0 0,.ptr 1 0,.ptr 8 0,.ptr 9 0,.ptr 10 0]] 105,.cells (ca f) 38,.row 3 1 (W eIi64 starts27)]) (fun y hm Kn4 hKn4=>?_) fun t h=>?_
       ·have h:=hm;clear hm;cbv;refine .g h (fun _=>rfl) fun x32 h=>?_;cbv
        refine .c10 h ?_ ?_ ?_ ?_ ?_ ?_ ?_ ?_ ?_ ?_<;>(
         intro hni33 h;cbv;refine .g h (fun _=>rfl) fun x34 h=>?_;cbv;refine .at _ hni33 (by decide) ?_;cbv;obtain rfl:=oj h;refine hKn4 _ _ _ rfl (.nz (.mtE [0,1,2,3,4,5,6,7,8,9,10,11,12] ?_));(cbv;repeat (refine⟨an_,?_⟩;cbv))
         )
       obtain⟨v31,rfl⟩:=ez t;cbv;refine .g h (fun ((starts35,v36):(List Int)×Int)=>[oi attr,.d (.sl (W eIi64 live)),.top,.top,.ptr 1 0,.ptr 8 0,.ptr 9 0,.ptr 10 0,.top,.top,.ptr 11 0]++List.replicate 4 .top++[.d (.val (.string key21)),.top,.top,.hd 12]++List.replicate 87 .top++[.d (.sl (W eIi64 live)),oi (io.len (W eIi64 live)),oi v28]++List.replicate 18 .top++[.agg [oi v31.a0,oi v31.a1],oi v36]++List.replicate 117 .top) (fun (starts35,v36)=>[.cells [.d (.sl (W eRule rules))] 24,.cells [.ptr 2 0] 100,.cells [.hd 3,.hd 4,.hd 5,.hd 6,.hd 7] 104,.row 64 4 (W eNode nodes),.row 45 16 (W eDecision leaves),.mp .str false (WM Value.string eIi64 kn),.mp .str false (WM Value.string eIi64 made),.mp (.agg [.bool,.bool,.bool,.int,.int,.int,.int,.int,.int,.int,.int,.int,.int,.int,.int,.int]) false (WM kwDecision eIi64 leaf),.cells (cR limits) 57,.cells [.d (.sl (W eA10Range zones))] 32,.cells [.clo (.func 55) [] [.ptr 0 0,.ptr 1 0,.ptr 8 0,.ptr 9 0,.ptr 10 0]] 105,.cells (ca f) 38,.row 3 1 (W eIi64 starts35)]) (.nz (.mtE [0,1,2,3,4,5,6,7,8,9,10,11,12] ?_)) fun s x h hr4 Kn4 hKn4=>?_
       ·(cbv;repeat (refine⟨an_,?_⟩;cbv))
       unfold tbuild_l14 at h;obtain⟨starts35,v36⟩:=s;cbv;refine brkG h ?_ ?_<;>intro h
       ·cbv;refine .g h (fun (starts37:(List Int))=>[oi attr,.d (.sl (W eIi64 live)),.top,.top,.ptr 1 0,.ptr 8 0,.ptr 9 0,.ptr 10 0,.top,.top,.ptr 11 0]++List.replicate 4 .top++[.d (.val (.string key21)),.top,.top,.hd 12]++List.replicate 87 .top++[.d (.sl (W eIi64 live)),oi (io.len (W eIi64 live)),oi v28]++List.replicate 18 .top++[.agg [oi v31.a0,oi v31.a1],oi v36]++List.replicate 117 .top) (fun starts37=>[.cells [.d (.sl (W eRule rules))] 24,.cells [.ptr 2 0] 100,.cells [.hd 3,.hd 4,.hd 5,.hd 6,.hd 7] 104,.row 64 4 (W eNode nodes),.row 45 16 (W eDecision leaves),.mp .str false (WM Value.string eIi64 kn),.mp .str false (WM Value.string eIi64 made),.mp (.agg [.bool,.bool,.bool,.int,.int,.int,.int,.int,.int,.int,.int,.int,.int,.int,.int,.int]) false (WM kwDecision eIi64 leaf),.cells (cR limits) 57,.cells [.d (.sl (W eA10Range zones))] 32,.cells [.clo (.func 55) [] [.ptr 0 0,.ptr 1 0,.ptr 8 0,.ptr 9 0,.ptr 10 0]] 105,.cells (ca f) 38,.row 3 1 (W eIi64 starts37)]) (fun y hm Kn5 hKn5=>?_) fun t h=>?_
        ·have h:=hm;clear hm;cbv;refine .g h (fun (c38:Int)=>[oi attr,.d (.sl (W eIi64 live)),.top,.top,.ptr 1 0,.ptr 8 0,.ptr 9 0,.ptr 10 0,.top,.top,.ptr 11 0]++List.replicate 4 .top++[.d (.val (.string key21)),.top,.top,.hd 12]++List.replicate 3 .top++[oi c38]++List.replicate 83 .top++[.d (.sl (W eIi64 live)),oi (io.len (W eIi64 live)),oi v28]++List.replicate 18 .top++[.agg [oi v31.a0,oi v31.a1],oi v36]++List.replicate 117 .top) (fun c38=>[.cells [.d (.sl (W eRule rules))] 24,.cells [.ptr 2 0] 100,.cells [.hd 3,.hd 4,.hd 5,.hd 6,.hd 7] 104,.row 64 4 (W eNode nodes),.row 45 16 (W eDecision leaves),.mp .str false (WM Value.string eIi64 kn),.mp .str false (WM Value.string eIi64 made),.mp (.agg [.bool,.bool,.bool,.int,.int,.int,.int,.int,.int,.int,.int,.int,.int,.int,.int,.int]) false (WM kwDecision eIi64 leaf),.cells (cR limits) 57,.cells [.d (.sl (W eA10Range zones))] 32,.cells [.clo (.func 55) [] [.ptr 0 0,.ptr 1 0,.ptr 8 0,.ptr 9 0,.ptr 10 0]] 105,.cells (ca f) 38,.row 3 1 (W eIi64 starts35)]) (fun y hm Kn6 hKn6=>?_) fun t h=>?_
         ·have h:=hm;clear hm;cbv
          refine .c2 h ?_ ?_<;>(
           intro hni39 h;cbv;obtain rfl:=oj h;refine hKn6 _ _ _ rfl (.nz (.mtE [0,1,2,3,4,5,6,7,8,9,10,11,12] ?_));(cbv;repeat (refine⟨an_,?_⟩;cbv))
           )
         obtain⟨c38,rfl⟩:=ez t;cbv;refine .g h (fun (v40:Bool)=>[oi attr,.d (.sl (W eIi64 live)),.top,.top,.ptr 1 0,.ptr 8 0,.ptr 9 0,.ptr 10 0,.top,.top,.ptr 11 0]++List.replicate 4 .top++[.d (.val (.string key21)),.top,.top,.hd 12]++List.replicate 3 .top++[oi c38]++List.replicate 83 .top++[.d (.sl (W eIi64 live)),oi (io.len (W eIi64 live)),oi v28]++List.replicate 18 .top++[.agg [oi v31.a0,oi v31.a1],oi v36]++List.replicate 15 .top++[.d (.val (.bool v40))]++List.replicate 101 .top) (fun v40=>[.cells [.d (.sl (W eRule rules))] 24,.cells [.ptr 2 0] 100,.cells [.hd 3,.hd 4,.hd 5,.hd 6,.hd 7] 104,.row 64 4 (W eNode nodes),.row 45 16 (W eDecision leaves),.mp .str false (WM Value.string eIi64 kn),.mp .str false (WM Value.string eIi64 made),.mp (.agg [.bool,.bool,.bool,.int,.int,.int,.int,.int,.int,.int,.int,.int,.int,.int,.int,.int]) false (WM kwDecision eIi64 leaf),.cells (cR limits) 57,.cells [.d (.sl (W eA10Range zones))] 32,.cells [.clo (.func 55) [] [.ptr 0 0,.ptr 1 0,.ptr 8 0,.ptr 9 0,.ptr 10 0]] 105,.cells (ca f) 38,.row 3 1 (W eIi64 starts35)]) (fun y hm Kn6 hKn6=>?_) fun t h=>?_
         ·have h:=hm;clear hm;cbv
          refine .c10 h ?_ ?_ ?_ ?_ ?_ ?_ ?_ ?_ ?_ ?_<;>(
           intro hni41 h;cbv;refine brkG h ?_ ?_<;>intro h
           ·cbv;refine .at _ hni41 (by decide) ?_;cbv;obtain rfl:=oj h;refine hKn6 _ _ _ rfl (.nz (.mtE [0,1,2,3,4,5,6,7,8,9,10,11,12] ?_));(cbv;repeat (refine⟨an_,?_⟩;cbv))
           ·cbv;obtain rfl:=oj h;refine hKn6 _ _ _ rfl (.nz (.mtE [0,1,2,3,4,5,6,7,8,9,10,11,12] ?_));(cbv;repeat (refine⟨an_,?_⟩;cbv))
           )
         obtain⟨v40,rfl⟩:=ez t;cbv;refine brkG h ?_ ?_<;>intro h
         ·cbv;refine .g (e:=eIi64) h (W_cons aw_ (W_nil' _)) fun l42 h=>?_;cbv;refine .g h rfl (fun _=>rfl) (by decide) fun starts43 h=>?_;cbv;obtain rfl:=oj h;refine hKn5 _ _ _ rfl (.nz (.mtE [0,1,2,3,4,5,6,7,8,9,10,11,14] ?_));(cbv;repeat (refine⟨an_,?_⟩;cbv))
         ·cbv;obtain rfl:=oj h;refine hKn5 _ _ _ rfl (.nz (.mtE [0,1,2,3,4,5,6,7,8,9,10,11,12] ?_));(cbv;repeat (refine⟨an_,?_⟩;cbv))
        obtain⟨starts37,rfl⟩:=ez t;cbv;obtain rfl:=oj h;refine hKn4 _ _ _ rfl (.nz (.mtE [0,1,2,3,4,5,6,7,8,9,10,11,12] ?_));(cbv;repeat (refine⟨an_,?_⟩;cbv))
       ·cbv;obtain rfl:=oj h;obtain rfl:=hr4 _ rfl;refine hKn3 _ _ _ rfl (.nz (.mtE [0,1,2,3,4,5,6,7,8,9,10,11,12] ?_));(cbv;repeat (refine⟨an_,?_⟩;cbv))
      obtain⟨starts29,rfl⟩:=ez t;cbv;obtain rfl:=oj h;refine hKn2 _ _ _ rfl (.nz (.mtE [0,1,2,3,4,5,6,7,8,9,10,11,12] ?_));(cbv;repeat (refine⟨an_,?_⟩;cbv))
     ·cbv;obtain rfl:=oj h;obtain rfl:=hr2 _ rfl;refine hKn1 _ _ _ rfl (.nz (.mtE [0,1,2,3,4,5,6,7,8,9,10,11,12] ?_));(cbv;repeat (refine⟨an_,?_⟩;cbv))
    obtain⟨starts26,rfl⟩:=ez t;cbv;refine .g h (fun (starts44:(List Int))=>[oi attr,.d (.sl (W eIi64 live)),.top,.top,.ptr 1 0,.top,.ptr 9 0,.ptr 10 0,.top,.top,.ptr 11 0]++List.replicate 4 .top++[.d (.val (.string key21)),.top,.top,.hd 12]++List.replicate 227 .top) (fun starts44=>[.cells [.d (.sl (W eRule rules))] 24,.cells [.ptr 2 0] 100,.cells [.hd 3,.hd 4,.hd 5,.hd 6,.hd 7] 104,.row 64 4 (W eNode nodes),.row 45 16 (W eDecision leaves),.mp .str false (WM Value.string eIi64 kn),.mp .str false (WM Value.string eIi64 made),.mp (.agg [.bool,.bool,.bool,.int,.int,.int,.int,.int,.int,.int,.int,.int,.int,.int,.int,.int]) false (WM kwDecision eIi64 leaf),.cells (cR limits) 57,.cells [.d (.sl (W eA10Range zones))] 32,.cells [.clo (.func 55) [] [.ptr 0 0,.ptr 1 0,.ptr 8 0,.ptr 9 0,.ptr 10 0]] 105,.cells (ca f) 38,.row 3 1 (W eIi64 starts44)]) (fun y hm Kn1 hKn1=>?_) fun t h=>?_
    ·have h:=hm;clear hm;cbv;obtain⟨l45,hm,h⟩:=Option.bind_eq_some_iff.1 h;refine .emb [12] (slices_Sort_R hP _ _ hm) (by (cbv;repeat (refine⟨an_,?_⟩;cbv))) fun sv0 own0 hq _=>?_;obtain⟨rfl,rfl⟩:=hq;clear hm;cbv;obtain rfl:=oj h;refine hKn1 _ _ _ rfl (.nz (.mtE [0,1,2,3,4,5,6,7,8,9,10,11,12] ?_));(cbv;repeat (refine⟨an_,?_⟩;cbv))
    obtain⟨starts44,rfl⟩:=ez t;cbv;refine .g h (fun ((nodes46,leaves47,own48,own49,own50,Cuts51,Kids52):(List Node)×(List Decision)×(List (ByteArray×Int))×(List (ByteArray×Int))×(List (Decision×Int))×(List Int)×(List Int))=>List.replicate 4 .top++[.ptr 1 0]++List.replicate 10 .top++[.d (.val (.string key21))]++List.replicate 7 .top++[.ptr 13 0]++List.replicate 222 .top) (fun (nodes46,leaves47,own48,own49,own50,Cuts51,Kids52)=>[.cells [.d (.sl (W eRule rules))] 24,.cells [.ptr 2 0] 100,.cells [.hd 11,.hd 12,.hd 5,.hd 6,.hd 7] 104,.gone,.gone,.mp .str false (WM Value.string eIi64 own48),.mp .str false (WM Value.string eIi64 own49),.mp (.agg [.bool,.bool,.bool,.int,.int,.int,.int,.int,.int,.int,.int,.int,.int,.int,.int,.int]) false (WM kwDecision eIi64 own50),.cells (cR limits) 57,.cells [.d (.sl (W eA10Range zones))] 32,.cells [.clo (.func 55) [] [.ptr 0 0,.ptr 1 0,.ptr 8 0,.ptr 9 0,.ptr 10 0]] 105,.row 64 4 (W eNode nodes46),.row 45 16 (W eDecision leaves47),.cells [oi attr,.hd 14,.hd 15,oi 0] 64,.row 3 1 (W eIi64 Cuts51),.row 3 1 (W eIi64 Kids52)]) (fun y hm Kn1 hKn1=>?_) fun t h=>?_
    ·have h:=hm;clear hm;cbv;refine .g h (fun ((v53,v54):(List Int)×Int)=>[oi attr,.d (.sl (W eIi64 live)),.top,.top,.ptr 1 0,.top,.ptr 9 0,.ptr 10 0,.top,.top,.ptr 11 0]++List.replicate 4 .top++[.d (.val (.string key21))]++List.replicate 7 .top++[.ptr 12 0]++List.replicate 132 .top++[.d (.sl (W eIi64 v53)),oi v54,oi 0]++List.replicate 87 .top) (fun (v53,v54)=>[.cells [.d (.sl (W eRule rules))] 24,.cells [.ptr 2 0] 100,.cells [.hd 3,.hd 4,.hd 5,.hd 6,.hd 7] 104,.row 64 4 (W eNode nodes),.row 45 16 (W eDecision leaves),.mp .str false (WM Value.string eIi64 kn),.mp .str false (WM Value.string eIi64 made),.mp (.agg [.bool,.bool,.bool,.int,.int,.int,.int,.int,.int,.int,.int,.int,.int,.int,.int,.int]) false (WM kwDecision eIi64 leaf),.cells (cR limits) 57,.cells [.d (.sl (W eA10Range zones))] 32,.cells [.clo (.func 55) [] [.ptr 0 0,.ptr 1 0,.ptr 8 0,.ptr 9 0,.ptr 10 0]] 105,.cells (ca f) 38,.cells [oi attr,.d (.val (.slice none 0 0)),.d (.val (.slice none 0 0)),oi 0] 64]) (fun y hm Kn2 hKn2=>?_) fun t h=>?_
     ·have h:=hm;clear hm;cbv;obtain⟨l55,hm,h⟩:=Option.bind_eq_some_iff.1 h;refine .emb [12] (slices_Compact_R hP _ _ hm) (by (cbv;repeat (refine⟨an_,?_⟩;cbv))) fun sv0 own0 hq _=>?_;obtain⟨rfl,rfl⟩:=hq;clear hm;cbv;obtain rfl:=oj h;refine hKn2 _ _ _ rfl (.nz (.mtE [0,1,2,3,4,5,6,7,8,9,10,11,13] ?_));(cbv;repeat (refine⟨an_,?_⟩;cbv))
     obtain⟨v53,v54⟩:=t;cbv;refine .g h (fun ((nodes56,leaves57,own58,own59,own60,f61,Cuts62,Kids63,v64):(List Node)×(List Decision)×(List (ByteArray×Int))×(List (ByteArray×Int))×(List (Decision×Int))×(A10 Int)×(List Int)×(List Int)×Int)=>[oi attr,.d (.sl (W eIi64 live)),.top,.top,.ptr 1 0,.top,.ptr 9 0,.ptr 10 0,.top,.top,.ptr 13 0]++List.replicate 4 .top++[.d (.val (.string key21))]++List.replicate 7 .top++[.ptr 14 0]++List.replicate 132 .top++[.d (.sl (W eIi64 v53)),oi v54,oi v64]++List.replicate 87 .top) (fun (nodes56,leaves57,own58,own59,own60,f61,Cuts62,Kids63,v64)=>[.cells [.d (.sl (W eRule rules))] 24,.cells [.ptr 2 0] 100,.cells [.hd 11,.hd 12,.hd 5,.hd 6,.hd 7] 104,.gone,.gone,.mp .str false (WM Value.string eIi64 own58),.mp .str false (WM Value.string eIi64 own59),.mp (.agg [.bool,.bool,.bool,.int,.int,.int,.int,.int,.int,.int,.int,.int,.int,.int,.int,.int]) false (WM kwDecision eIi64 own60),.cells (cR limits) 57,.cells [.d (.sl (W eA10Range zones))] 32,.cells [.clo (.func 55) [] [.ptr 0 0,.ptr 1 0,.ptr 8 0,.ptr 9 0,.ptr 10 0]] 105,.row 64 4 (W eNode nodes56),.row 45 16 (W eDecision leaves57),.cells (ca f61) 38,.cells [oi attr,.hd 15,.hd 16,oi 0] 64,.row 3 1 (W eIi64 Cuts62),.row 3 1 (W eIi64 Kids63)]) (.nilcell 12 1 3 1 _ 64 rfl rfl (.nilcell 12 2 3 1 _ 64 rfl rfl (.nz (.mtE [0,1,2,3,4,5,6,7,8,9,10,3,4,11,12,13,14] ?_)))) fun s x h hr2 Kn2 hKn2=>?_
     ·(cbv;repeat (refine⟨an_,?_⟩;cbv))
     unfold tbuild_l36 at h;obtain⟨nodes56,leaves57,own58,own59,own60,f61,Cuts62,Kids63,v64⟩:=s;cbv;refine brkG h ?_ ?_<;>intro h
     ·cbv;refine .g h (fun ((nodes65,leaves66,own67,own68,own69,f70,Cuts71,Kids72):(List Node)×(List Decision)×(List (ByteArray×Int))×(List (ByteArray×Int))×(List (Decision×Int))×(A10 Int)×(List Int)×(List Int))=>[oi attr,.d (.sl (W eIi64 live)),.top,.top,.ptr 1 0,.top,.ptr 9 0,.ptr 10 0,.top,.top,.ptr 13 0]++List.replicate 4 .top++[.d (.val (.string key21))]++List.replicate 7 .top++[.ptr 14 0]++List.replicate 132 .top++[.d (.sl (W eIi64 v53)),oi v54,oi v64]++List.replicate 87 .top) (fun (nodes65,leaves66,own67,own68,own69,f70,Cuts71,Kids72)=>[.cells [.d (.sl (W eRule rules))] 24,.cells [.ptr 2 0] 100,.cells [.hd 11,.hd 12,.hd 5,.hd 6,.hd 7] 104,.gone,.gone,.mp .str false (WM Value.string eIi64 own67),.mp .str false (WM Value.string eIi64 own68),.mp (.agg [.bool,.bool,.bool,.int,.int,.int,.int,.int,.int,.int,.int,.int,.int,.int,.int,.int]) false (WM kwDecision eIi64 own69),.cells (cR limits) 57,.cells [.d (.sl (W eA10Range zones))] 32,.cells [.clo (.func 55) [] [.ptr 0 0,.ptr 1 0,.ptr 8 0,.ptr 9 0,.ptr 10 0]] 105,.row 64 4 (W eNode nodes65),.row 45 16 (W eDecision leaves66),.cells (ca f70) 38,.cells [oi attr,.hd 15,.hd 16,oi 0] 64,.row 3 1 (W eIi64 Cuts71),.row 3 1 (W eIi64 Kids72)]) (fun y hm Kn3 hKn3=>?_) fun t h=>?_
      ·have h:=hm;clear hm;cbv;refine .g h (fun _=>rfl) fun x73 h=>?_;cbv;refine .g h (fun (f74:(A10 Int))=>[oi attr,.d (.sl (W eIi64 live)),.top,.top,.ptr 1 0,.top,.ptr 9 0,.ptr 10 0,.top,.top,.ptr 13 0]++List.replicate 4 .top++[.d (.val (.string key21))]++List.replicate 7 .top++[.ptr 14 0,oi v64,oi x73]++List.replicate 130 .top++[.d (.sl (W eIi64 v53)),oi v54,oi v64]++List.replicate 87 .top) (fun f74=>[.cells [.d (.sl (W eRule rules))] 24,.cells [.ptr 2 0] 100,.cells [.hd 11,.hd 12,.hd 5,.hd 6,.hd 7] 104,.gone,.gone,.mp .str false (WM Value.string eIi64 own58),.mp .str false (WM Value.string eIi64 own59),.mp (.agg [.bool,.bool,.bool,.int,.int,.int,.int,.int,.int,.int,.int,.int,.int,.int,.int,.int]) false (WM kwDecision eIi64 own60),.cells (cR limits) 57,.cells [.d (.sl (W eA10Range zones))] 32,.cells [.clo (.func 55) [] [.ptr 0 0,.ptr 1 0,.ptr 8 0,.ptr 9 0,.ptr 10 0]] 105,.row 64 4 (W eNode nodes56),.row 45 16 (W eDecision leaves57),.cells (ca f74) 38,.cells [oi attr,.hd 15,.hd 16,oi 0] 64,.row 3 1 (W eIi64 Cuts62),.row 3 1 (W eIi64 Kids63)]) (fun y hm Kn4 hKn4=>?_) fun t h=>?_
       ·have h:=hm;clear hm;cbv
        refine .c10 h ?_ ?_ ?_ ?_ ?_ ?_ ?_ ?_ ?_ ?_<;>(
         intro hni75 h;cbv;obtain rfl:=oj h;refine hKn4 _ _ _ rfl (.nz (.mtE [0,1,2,3,4,5,6,7,8,9,10,11,12,13,14,15,16] ?_));(cbv;repeat (refine⟨an_,?_⟩;cbv))
         )
       obtain⟨f74,rfl⟩:=ez t;cbv;refine .g h (fun (next76:(List Int))=>[oi attr,.d (.sl (W eIi64 live)),.top,.top,.ptr 1 0,.top,.ptr 9 0,.ptr 10 0,.top,.top,.ptr 13 0]++List.replicate 4 .top++[.d (.val (.string key21))]++List.replicate 7 .top++[.ptr 14 0,oi v64,oi x73,.hd 17]++List.replicate 129 .top++[.d (.sl (W eIi64 v53)),oi v54,oi v64]++List.replicate 87 .top) (fun next76=>[.cells [.d (.sl (W eRule rules))] 24,.cells [.ptr 2 0] 100,.cells [.hd 11,.hd 12,.hd 5,.hd 6,.hd 7] 104,.gone,.gone,.mp .str false (WM Value.string eIi64 own58),.mp .str false (WM Value.string eIi64 own59),.mp (.agg [.bool,.bool,.bool,.int,.int,.int,.int,.int,.int,.int,.int,.int,.int,.int,.int,.int]) false (WM kwDecision eIi64 own60),.cells (cR limits) 57,.cells [.d (.sl (W eA10Range zones))] 32,.cells [.clo (.func 55) [] [.ptr 0 0,.ptr 1 0,.ptr 8 0,.ptr 9 0,.ptr 10 0]] 105,.row 64 4 (W eNode nodes56),.row 45 16 (W eDecision leaves57),.cells (ca f74) 38,.cells [oi attr,.hd 15,.hd 16,oi 0] 64,.row 3 1 (W eIi64 Cuts62),.row 3 1 (W eIi64 Kids63),.row 3 1 (W eIi64 next76)]) (fun y hm Kn4 hKn4=>?_) fun t h=>?_
       ·have h:=hm;clear hm;cbv;refine .g h (fun ((next77,v78):(List Int)×Int)=>[oi attr,.d (.sl (W eIi64 live)),.top,.top,.ptr 1 0,.top,.ptr 9 0,.ptr 10 0,.top,.top,.ptr 13 0]++List.replicate 4 .top++[.d (.val (.string key21))]++List.replicate 7 .top++[.ptr 14 0,oi v64,oi x73,.hd 17]++List.replicate 129 .top++[.d (.sl (W eIi64 v53)),oi v54,oi v64]++List.replicate 7 .top++[.d (.sl (W eIi64 live)),oi (io.len (W eIi64 live)),oi v78]++List.replicate 77 .top) (fun (next77,v78)=>[.cells [.d (.sl (W eRule rules))] 24,.cells [.ptr 2 0] 100,.cells [.hd 11,.hd 12,.hd 5,.hd 6,.hd 7] 104,.gone,.gone,.mp .str false (WM Value.string eIi64 own58),.mp .str false (WM Value.string eIi64 own59),.mp (.agg [.bool,.bool,.bool,.int,.int,.int,.int,.int,.int,.int,.int,.int,.int,.int,.int,.int]) false (WM kwDecision eIi64 own60),.cells (cR limits) 57,.cells [.d (.sl (W eA10Range zones))] 32,.cells [.clo (.func 55) [] [.ptr 0 0,.ptr 1 0,.ptr 8 0,.ptr 9 0,.ptr 10 0]] 105,.row 64 4 (W eNode nodes56),.row 45 16 (W eDecision leaves57),.cells (ca f74) 38,.cells [oi attr,.hd 15,.hd 16,oi 0] 64,.row 3 1 (W eIi64 Cuts62),.row 3 1 (W eIi64 Kids63),.row 3 1 (W eIi64 next77)]) (.nilr 26 3 1 rfl (.nz (.mtE [0,1,2,3,4,5,6,7,8,9,10,11,12,13,14,15,16,17] ?_))) fun s x h hr5 Kn5 hKn5=>?_
        ·(cbv;repeat (refine⟨an_,?_⟩;cbv))
        unfold tbuild_l40 at h;obtain⟨next77,v78⟩:=s;cbv;refine brkG h ?_ ?_<;>intro h
        ·cbv;refine .g h (fun (next79:(List Int))=>[oi attr,.d (.sl (W eIi64 live)),.top,.top,.ptr 1 0,.top,.ptr 9 0,.ptr 10 0,.top,.top,.ptr 13 0]++List.replicate 4 .top++[.d (.val (.string key21))]++List.replicate 7 .top++[.ptr 14 0,oi v64,oi x73,.hd 17]++List.replicate 129 .top++[.d (.sl (W eIi64 v53)),oi v54,oi v64]++List.replicate 7 .top++[.d (.sl (W eIi64 live)),oi (io.len (W eIi64 live)),oi v78]++List.replicate 77 .top) (fun next79=>[.cells [.d (.sl (W eRule rules))] 24,.cells [.ptr 2 0] 100,.cells [.hd 11,.hd 12,.hd 5,.hd 6,.hd 7] 104,.gone,.gone,.mp .str false (WM Value.string eIi64 own58),.mp .str false (WM Value.string eIi64 own59),.mp (.agg [.bool,.bool,.bool,.int,.int,.int,.int,.int,.int,.int,.int,.int,.int,.int,.int,.int]) false (WM kwDecision eIi64 own60),.cells (cR limits) 57,.cells [.d (.sl (W eA10Range zones))] 32,.cells [.clo (.func 55) [] [.ptr 0 0,.ptr 1 0,.ptr 8 0,.ptr 9 0,.ptr 10 0]] 105,.row 64 4 (W eNode nodes56),.row 45 16 (W eDecision leaves57),.cells (ca f74) 38,.cells [oi attr,.hd 15,.hd 16,oi 0] 64,.row 3 1 (W eIi64 Cuts62),.row 3 1 (W eIi64 Kids63),.row 3 1 (W eIi64 next79)]) (fun y hm Kn6 hKn6=>?_) fun t h=>?_
         ·have h:=hm;clear hm;cbv;refine .g h (fun _=>rfl) fun x80 h=>?_;cbv;refine .g h (fun ((Lo81,Hi82):Int×Int)=>[oi attr,.d (.sl (W eIi64 live)),.top,.top,.ptr 1 0,.top,.ptr 9 0,.ptr 10 0,.top,.top,.ptr 13 0]++List.replicate 4 .top++[.d (.val (.string key21))]++List.replicate 7 .top++[.ptr 14 0,oi v64,oi x73,.hd 17,.top,oi x80,.ptr 18 0]++List.replicate 126 .top++[.d (.sl (W eIi64 v53)),oi v54,oi v64]++List.replicate 7 .top++[.d (.sl (W eIi64 live)),oi (io.len (W eIi64 live)),oi v78]++List.replicate 77 .top) (fun (Lo81,Hi82)=>[.cells [.d (.sl (W eRule rules))] 24,.cells [.ptr 2 0] 100,.cells [.hd 11,.hd 12,.hd 5,.hd 6,.hd 7] 104,.gone,.gone,.mp .str false (WM Value.string eIi64 own58),.mp .str false (WM Value.string eIi64 own59),.mp (.agg [.bool,.bool,.bool,.int,.int,.int,.int,.int,.int,.int,.int,.int,.int,.int,.int,.int]) false (WM kwDecision eIi64 own60),.cells (cR limits) 57,.cells [.d (.sl (W eA10Range zones))] 32,.cells [.clo (.func 55) [] [.ptr 0 0,.ptr 1 0,.ptr 8 0,.ptr 9 0,.ptr 10 0]] 105,.row 64 4 (W eNode nodes56),.row 45 16 (W eDecision leaves57),.cells (ca f74) 38,.cells [oi attr,.hd 15,.hd 16,oi 0] 64,.row 3 1 (W eIi64 Cuts62),.row 3 1 (W eIi64 Kids63),.row 3 1 (W eIi64 next77),.cells [oi Lo81,oi Hi82] 55]) (fun y hm Kn7 hKn7=>?_) fun t h=>?_
          ·have h:=hm;clear hm;cbv;refine .g h (fun _=>rfl) fun x83 h=>?_;cbv
           refine .c10 h ?_ ?_ ?_ ?_ ?_ ?_ ?_ ?_ ?_ ?_<;>(
            intro hni84 h;cbv;obtain rfl:=oj h;refine hKn7 _ _ _ rfl (.nz (.mtE [0,1,2,3,4,5,6,7,8,9,10,11,12,13,14,15,16,17,18] ?_));(cbv;repeat (refine⟨an_,?_⟩;cbv))
            )
          obtain⟨Lo81,Hi82⟩:=t;cbv;refine .g h (fun (v85:Bool)=>[oi attr,.d (.sl (W eIi64 live)),.top,.top,.ptr 1 0,.top,.ptr 9 0,.ptr 10 0,.top,.top,.ptr 13 0]++List.replicate 4 .top++[.d (.val (.string key21))]++List.replicate 7 .top++[.ptr 14 0,oi v64,oi x73,.hd 17,.top,oi x80]++List.replicate 127 .top++[.d (.sl (W eIi64 v53)),oi v54,oi v64]++List.replicate 7 .top++[.d (.sl (W eIi64 live)),oi (io.len (W eIi64 live)),oi v78]++List.replicate 18 .top++[.d (.val (.bool v85))]++List.replicate 58 .top) (fun v85=>[.cells [.d (.sl (W eRule rules))] 24,.cells [.ptr 2 0] 100,.cells [.hd 11,.hd 12,.hd 5,.hd 6,.hd 7] 104,.gone,.gone,.mp .str false (WM Value.string eIi64 own58),.mp .str false (WM Value.string eIi64 own59),.mp (.agg [.bool,.bool,.bool,.int,.int,.int,.int,.int,.int,.int,.int,.int,.int,.int,.int,.int]) false (WM kwDecision eIi64 own60),.cells (cR limits) 57,.cells [.d (.sl (W eA10Range zones))] 32,.cells [.clo (.func 55) [] [.ptr 0 0,.ptr 1 0,.ptr 8 0,.ptr 9 0,.ptr 10 0]] 105,.row 64 4 (W eNode nodes56),.row 45 16 (W eDecision leaves57),.cells (ca f74) 38,.cells [oi attr,.hd 15,.hd 16,oi 0] 64,.row 3 1 (W eIi64 Cuts62),.row 3 1 (W eIi64 Kids63),.row 3 1 (W eIi64 next77)]) (fun y hm Kn7 hKn7=>?_) fun t h=>?_
          ·have h:=hm;clear hm;cbv;refine brkG h ?_ ?_<;>intro h
           ·cbv;obtain rfl:=oj h;refine hKn7 _ _ _ rfl (.nz (.mtE [0,1,2,3,4,5,6,7,8,9,10,11,12,13,14,15,16,17] ?_));(cbv;repeat (refine⟨an_,?_⟩;cbv))
           ·cbv;obtain rfl:=oj h;refine hKn7 _ _ _ rfl (.nz (.mtE [0,1,2,3,4,5,6,7,8,9,10,11,12,13,14,15,16,17] ?_));(cbv;repeat (refine⟨an_,?_⟩;cbv))
          obtain⟨v85,rfl⟩:=ez t;cbv;refine brkG h ?_ ?_<;>intro h
          ·cbv;refine .g (e:=eIi64) h (W_cons aw_ (W_nil' _)) fun l86 h=>?_;cbv;refine .g h rfl (fun _=>rfl) (by decide) fun next87 h=>?_;cbv;obtain rfl:=oj h;refine hKn6 _ _ _ rfl (.nz (.mtE [0,1,2,3,4,5,6,7,8,9,10,11,12,13,14,15,16,19] ?_));(cbv;repeat (refine⟨an_,?_⟩;cbv))
          ·cbv;obtain rfl:=oj h;refine hKn6 _ _ _ rfl (.nz (.mtE [0,1,2,3,4,5,6,7,8,9,10,11,12,13,14,15,16,17] ?_));(cbv;repeat (refine⟨an_,?_⟩;cbv))
         obtain⟨next79,rfl⟩:=ez t;cbv;obtain rfl:=oj h;refine hKn5 _ _ _ rfl (.nz (.mtE [0,1,2,3,4,5,6,7,8,9,10,11,12,13,14,15,16,17] ?_));(cbv;repeat (refine⟨an_,?_⟩;cbv))
        ·cbv;obtain rfl:=oj h;obtain rfl:=hr5 _ rfl;refine hKn4 _ _ _ rfl (.nz (.mtE [0,1,2,3,4,5,6,7,8,9,10,11,12,13,14,15,16,17] ?_));(cbv;repeat (refine⟨an_,?_⟩;cbv))
       obtain⟨next76,rfl⟩:=ez t;cbv;refine .g h (fun ((nodes88,leaves89,own90,own91,own92,kid93):(List Node)×(List Decision)×(List (ByteArray×Int))×(List (ByteArray×Int))×(List (Decision×Int))×Int)=>[oi attr,.d (.sl (W eIi64 live)),.top,.top,.ptr 1 0,.top,.ptr 9 0,.ptr 10 0,.top,.top,.ptr 13 0]++List.replicate 4 .top++[.d (.val (.string key21))]++List.replicate 7 .top++[.ptr 14 0,oi v64,oi x73]++List.replicate 4 .top++[oi kid93]++List.replicate 125 .top++[.d (.sl (W eIi64 v53)),oi v54,oi v64]++List.replicate 87 .top) (fun (nodes88,leaves89,own90,own91,own92,kid93)=>[.cells [.d (.sl (W eRule rules))] 24,.cells [.ptr 2 0] 100,.cells [.hd 11,.hd 12,.hd 5,.hd 6,.hd 7] 104,.gone,.gone,.mp .str false (WM Value.string eIi64 own90),.mp .str false (WM Value.string eIi64 own91),.mp (.agg [.bool,.bool,.bool,.int,.int,.int,.int,.int,.int,.int,.int,.int,.int,.int,.int,.int]) false (WM kwDecision eIi64 own92),.cells (cR limits) 57,.cells [.d (.sl (W eA10Range zones))] 32,.cells [.clo (.func 55) [] [.ptr 0 0,.ptr 1 0,.ptr 8 0,.ptr 9 0,.ptr 10 0]] 105,.row 64 4 (W eNode nodes88),.row 45 16 (W eDecision leaves89),.cells (ca f74) 38,.cells [oi attr,.hd 15,.hd 16,oi 0] 64,.row 3 1 (W eIi64 Cuts62),.row 3 1 (W eIi64 Kids63)]) (fun y hm Kn4 hKn4=>?_) fun t h=>?_
       ·have h:=hm;clear hm;cbv;obtain⟨r94,hm,h⟩:=Option.bind_eq_some_iff.1 h;refine .embL [0,1,2,11,12,5,6,7,8,9,10] (hrec _ _ _ _ _ _ _ _ _ hm) (by (cbv;repeat (refine⟨an_,?_⟩;cbv))) fun sv0 own0 hq _=>?_;obtain⟨rfl,rfl⟩:=hq;clear hm;cbv;obtain rfl:=oj h;refine hKn4 _ _ _ rfl (.nz (.mtE [0,1,2,3,4,5,6,7,8,9,10,18,19,13,14,15,16] ?_));(cbv;repeat (refine⟨an_,?_⟩;cbv))
       obtain⟨nodes88,leaves89,own90,own91,own92,kid93⟩:=t;cbv;refine .g h (fun (v95:Bool)=>[oi attr,.d (.sl (W eIi64 live)),.top,.top,.ptr 1 0,.top,.ptr 9 0,.ptr 10 0,.top,.top,.ptr 13 0]++List.replicate 4 .top++[.d (.val (.string key21))]++List.replicate 7 .top++[.ptr 14 0,oi v64,oi x73]++List.replicate 4 .top++[oi kid93]++List.replicate 125 .top++[.d (.sl (W eIi64 v53)),oi v54,oi v64]++List.replicate 53 .top++[.d (.val (.bool v95))]++List.replicate 33 .top) (fun v95=>[.cells [.d (.sl (W eRule rules))] 24,.cells [.ptr 2 0] 100,.cells [.hd 11,.hd 12,.hd 5,.hd 6,.hd 7] 104,.gone,.gone,.mp .str false (WM Value.string eIi64 own90),.mp .str false (WM Value.string eIi64 own91),.mp (.agg [.bool,.bool,.bool,.int,.int,.int,.int,.int,.int,.int,.int,.int,.int,.int,.int,.int]) false (WM kwDecision eIi64 own92),.cells (cR limits) 57,.cells [.d (.sl (W eA10Range zones))] 32,.cells [.clo (.func 55) [] [.ptr 0 0,.ptr 1 0,.ptr 8 0,.ptr 9 0,.ptr 10 0]] 105,.row 64 4 (W eNode nodes88),.row 45 16 (W eDecision leaves89),.cells (ca f74) 38,.cells [oi attr,.hd 15,.hd 16,oi 0] 64,.row 3 1 (W eIi64 Cuts62),.row 3 1 (W eIi64 Kids63)]) (fun y hm Kn4 hKn4=>?_) fun t h=>?_
       ·have h:=hm;clear hm;cbv;refine brkG h ?_ ?_<;>intro h
        ·cbv;refine .g h fun i96 h=>?_;cbv;refine .g h fun v97 h=>?_;cbv;obtain rfl:=oj h;refine hKn4 _ _ _ rfl (.nz (.mtE [0,1,2,3,4,5,6,7,8,9,10,11,12,13,14,15,16] ?_));(cbv;repeat (refine⟨an_,?_⟩;cbv))
        ·cbv;obtain rfl:=oj h;refine hKn4 _ _ _ rfl (.nz (.mtE [0,1,2,3,4,5,6,7,8,9,10,11,12,13,14,15,16] ?_));(cbv;repeat (refine⟨an_,?_⟩;cbv))
       obtain⟨v95,rfl⟩:=ez t;cbv;refine brkG h ?_ ?_<;>intro h
       ·cbv;obtain rfl:=oj h;refine hKn3 _ _ _ rfl (.nz (.mtE [0,1,2,3,4,5,6,7,8,9,10,11,12,13,14,15,16] ?_));(cbv;repeat (refine⟨an_,?_⟩;cbv))
       ·cbv;refine .g h (fun (Cuts98:(List Int))=>[oi attr,.d (.sl (W eIi64 live)),.top,.top,.ptr 1 0,.top,.ptr 9 0,.ptr 10 0,.top,.top,.ptr 13 0]++List.replicate 4 .top++[.d (.val (.string key21))]++List.replicate 7 .top++[.ptr 14 0]++List.replicate 6 .top++[oi kid93]++List.replicate 125 .top++[.d (.sl (W eIi64 v53)),oi v54,oi v64]++List.replicate 87 .top) (fun Cuts98=>[.cells [.d (.sl (W eRule rules))] 24,.cells [.ptr 2 0] 100,.cells [.hd 11,.hd 12,.hd 5,.hd 6,.hd 7] 104,.gone,.gone,.mp .str false (WM Value.string eIi64 own90),.mp .str false (WM Value.string eIi64 own91),.mp (.agg [.bool,.bool,.bool,.int,.int,.int,.int,.int,.int,.int,.int,.int,.int,.int,.int,.int]) false (WM kwDecision eIi64 own92),.cells (cR limits) 57,.cells [.d (.sl (W eA10Range zones))] 32,.cells [.clo (.func 55) [] [.ptr 0 0,.ptr 1 0,.ptr 8 0,.ptr 9 0,.ptr 10 0]] 105,.row 64 4 (W eNode nodes88),.row 45 16 (W eDecision leaves89),.cells (ca f74) 38,.cells [oi attr,.hd 15,.hd 16,oi 0] 64,.row 3 1 (W eIi64 Cuts98),.row 3 1 (W eIi64 Kids63)]) (fun y hm Kn4 hKn4=>?_) fun t h=>?_
        ·have h:=hm;clear hm;cbv;refine brkG h ?_ ?_<;>intro h
         ·cbv;refine .g (e:=eIi64) h (W_cons aw_ (W_nil' _)) fun l99 h=>?_;cbv;refine .g h rfl (fun _=>rfl) (by decide) fun l100 h=>?_;cbv;obtain rfl:=oj h;refine hKn4 _ _ _ rfl (.nz (.mtE [0,1,2,3,4,5,6,7,8,9,10,11,12,13,14,18,16] ?_));(cbv;repeat (refine⟨an_,?_⟩;cbv))
         ·cbv;obtain rfl:=oj h;refine hKn4 _ _ _ rfl (.nz (.mtE [0,1,2,3,4,5,6,7,8,9,10,11,12,13,14,15,16] ?_));(cbv;repeat (refine⟨an_,?_⟩;cbv))
        obtain⟨Cuts98,rfl⟩:=ez t;cbv;refine .g (e:=eIi64) h (W_cons aw_ (W_nil' _)) fun l101 h=>?_;cbv;refine .g h rfl (fun _=>rfl) (by decide) fun l102 h=>?_;cbv;obtain rfl:=oj h;refine hKn3 _ _ _ rfl (.nz (.mtE [0,1,2,3,4,5,6,7,8,9,10,11,12,13,14,15,18] ?_));(cbv;repeat (refine⟨an_,?_⟩;cbv))
      obtain⟨nodes65,leaves66,own67,own68,own69,f70,Cuts71,Kids72⟩:=t;cbv;obtain rfl:=oj h;refine hKn2 _ _ _ rfl (.nz (.mtE [0,1,2,3,4,5,6,7,8,9,10,11,12,13,14,15,16] ?_));(cbv;repeat (refine⟨an_,?_⟩;cbv))
     ·cbv;obtain rfl:=oj h;obtain rfl:=hr2 _ rfl;refine hKn1 _ _ _ rfl (.nz (.mtE [0,1,2,3,4,5,6,7,8,9,10,11,12,14,15,16] ?_));(cbv;repeat (refine⟨an_,?_⟩;cbv))
    obtain⟨nodes46,leaves47,own48,own49,own50,Cuts51,Kids52⟩:=t;cbv;refine .g h fun i103 h=>?_;cbv;refine .g h fun v104 h=>?_;cbv;refine .g h (fun ((nodes105,own106,out107):(List Node)×(List (ByteArray×Int))×Int)=>List.replicate 4 .top++[.ptr 1 0]++List.replicate 10 .top++[.d (.val (.string key21))]++List.replicate 15 .top++[oi out107]++List.replicate 214 .top) (fun (nodes105,own106,out107)=>[.cells [.d (.sl (W eRule rules))] 24,.cells [.ptr 2 0] 100,.cells [.hd 11,.hd 12,.hd 5,.hd 6,.hd 7] 104,.gone,.gone,.mp .str false (WM Value.string eIi64 own106),.mp .str false (WM Value.string eIi64 own49),.mp (.agg [.bool,.bool,.bool,.int,.int,.int,.int,.int,.int,.int,.int,.int,.int,.int,.int,.int]) false (WM kwDecision eIi64 own50),.cells (cR limits) 57,.cells [.d (.sl (W eA10Range zones))] 32,.cells [.clo (.func 55) [] [.ptr 0 0,.ptr 1 0,.ptr 8 0,.ptr 9 0,.ptr 10 0]] 105,.row 64 4 (W eNode nodes105),.row 45 16 (W eDecision leaves47)]) (fun y hm Kn1 hKn1=>?_) fun t h=>?_
    ·have h:=hm;clear hm;cbv;refine brkG h ?_ ?_<;>intro h
     ·cbv;refine .inl (hP▸c56_ok) ?_;cbv;refine .g (e:=eIi64) h (W_cons aw_ (W_cons aw_ (W_nil' _))) fun l108 h=>?_;cbv;refine .g (e:=eLIi64) h (W_cons aw_ (W_cons aw_ (W_cons aw_ (W_nil' _)))) fun l109 h=>?_;cbv;refine .gl [] h (fun v hv=>table_text_R hP _ v hv) aw_ rfl fun v110 h=>?_;cbv;refine .os (e:=eIi64) h (by first | rfl | exact WM_nil' _ _) (fun y111 h=>?_) (fun h=>?_)
      ·cbv;obtain rfl:=oj h;refine hKn1 _ _ _ rfl (.nz (.mtE [0,1,2,3,4,5,6,7,8,9,10,11,12] ?_));(cbv;repeat (refine⟨an_,?_⟩;cbv))
      ·cbv;refine .g (e:=eNode) h (W_cons aw_ (W_nil' _)) fun l112 h=>?_;cbv;refine .g h rfl (fun _=>rfl) (by decide) fun l113 h=>?_;cbv;refine .gs (e:=eIi64) h (by first | rfl | exact WM_nil' _ _) aw_ fun m114 h=>?_;cbv;obtain rfl:=oj h;refine hKn1 _ _ _ rfl (.nz (.mtE [0,1,2,3,4,5,6,7,8,9,10,19,12] ?_));(cbv;repeat (refine⟨an_,?_⟩;cbv))
     ·cbv;obtain rfl:=oj h;refine hKn1 _ _ _ rfl (.nz (.mtE [0,1,2,3,4,5,6,7,8,9,10,11,12] ?_));(cbv;repeat (refine⟨an_,?_⟩;cbv))
    obtain⟨nodes105,own106,out107⟩:=t;cbv;refine .gs (e:=eIi64) h (by first | rfl | exact WM_nil' _ _) aw_ fun m115 h=>?_;cbv;obtain rfl:=oj h;refine hK _ _ [0,1,2,3,4,5,6,7,8,9,10,11,12] ?_;(cbv;repeat (refine⟨an_,?_⟩;cbv))
theorem tbuild_all {P:Program}(hP:P=Tryd.prog)(rules:(List Rule))(limits:(A10 Range))(zones:(List (A10 Range))):∀ (n:Nat)(attr:Int)(live:(List Int))(f:(A10 Int))(nodes:(List Node))(leaves:(List Decision))(kn:(List (ByteArray×Int)))(made:(List (ByteArray×Int)))(leaf:(List (Decision×Int)))(r:Int×(List Node)×(List Decision)×(List (ByteArray×Int))×(List (ByteArray×Int))×(List (Decision×Int))),tbuild rules limits zones n attr live f nodes leaves kn made leaf=some r→SCall P 55 [.cells [.d (.sl (W eRule rules))] 24,.cells [.ptr 2 0] 100,.cells [.hd 3,.hd 4,.hd 5,.hd 6,.hd 7] 104,.row 64 4 (W eNode nodes),.row 45 16 (W eDecision leaves),.mp .str false (WM Value.string eIi64 kn),.mp .str false (WM Value.string eIi64 made),.mp (.agg [.bool,.bool,.bool,.int,.int,.int,.int,.int,.int,.int,.int,.int,.int,.int,.int,.int]) false (WM kwDecision eIi64 leaf),.cells (cR limits) 57,.cells [.d (.sl (W eA10Range zones))] 32,.cells [.clo (.func 55) [] [.ptr 0 0,.ptr 1 0,.ptr 8 0,.ptr 9 0,.ptr 10 0]] 105] [oi attr,.d (.sl (W eIi64 live)),.agg (ca f),.ptr 0 0,.ptr 1 0,.ptr 8 0,.ptr 9 0,.ptr 10 0] (fun sv own'=>sv=oi r.1∧own'=[.cells [.d (.sl (W eRule rules))] 24,.cells [.ptr 2 0] 100,.cells [.hd 11,.hd 12,.hd 5,.hd 6,.hd 7] 104,.gone,.gone,.mp .str false (WM Value.string eIi64 r.2.2.2.1),.mp .str false (WM Value.string eIi64 r.2.2.2.2.1),.mp (.agg [.bool,.bool,.bool,.int,.int,.int,.int,.int,.int,.int,.int,.int,.int,.int,.int,.int]) false (WM kwDecision eIi64 r.2.2.2.2.2),.cells (cR limits) 57,.cells [.d (.sl (W eA10Range zones))] 32,.cells [.clo (.func 55) [] [.ptr 0 0,.ptr 1 0,.ptr 8 0,.ptr 9 0,.ptr 10 0]] 105,.row 64 4 (W eNode r.2.1),.row 45 16 (W eDecision r.2.2.1)])
 | 0,_,_,_,_,_,_,_,_,_,h=>by cases h
 | n+1,attr,live,f,nodes,leaves,kn,made,leaf,r,h=>tbuild_R hP rules limits zones _ attr live f nodes leaves kn made leaf (tbuild_all hP rules limits zones n) r h
end Go.SX.Td
