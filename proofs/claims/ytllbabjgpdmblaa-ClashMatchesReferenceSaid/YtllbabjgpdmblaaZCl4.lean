/- Parts of the proof. -/
import Derived.Test.YtllbabjgpdmblaaZClT
import Derived.Test.YtllbabjgpdmblaaZCl48
import Derived.Test.YtllbabjgpdmblaaZCl12
import Derived.Test.YtllbabjgpdmblaaZCl14
import Derived.Test.YtllbabjgpdmblaaZCl11
import Derived.Test.YtllbabjgpdmblaaZClP11
import Derived.Test.YtllbabjgpdmblaaZCl31
import Derived.Test.YtllbabjgpdmblaaZCl18
import Derived.Test.YtllbabjgpdmblaaZCl9
set_option linter.unusedSimpArgs false
set_option linter.unusedVariables false
namespace Go.SX.Cl
open Go Go.SX Go.Proofs
set_option maxRecDepth 100000
def c4r0 : List GOp := [
 gv 2 (.box 24 (.tmp 0)),
 gv 3 (.box 32 (.tmp 1)),
 gv 4 (.mv (.const (.bool false)))]
def c4r1 : List GOp := [
 gv 10 (.call 9 []),
 gv 5 (.mv (.tmp 10))]
def c4r2 : List GOp := [
 gv 11 (.load 1 true (.tmp 2)),
 gv 12 (.call 10 [(.tmp 11), (.const (.int .i64 12))]),
 gv 13 (.un .not (.tmp 12)),
 gv 14 (.mv (.tmp 13)),
 gw 15 14 false (.load 10 true (.tmp 3)),
 gw 16 14 false (.call 14 [(.tmp 15)]),
 gw 17 14 false (.un .not (.tmp 16)),
 gv 18 (.pick (.tmp 14) (.const (.bool true)) (.tmp 17))]
def c4r3 : List GOp := [
 gv 19 (.mv (.tmp 5)),
 gv 4 (.mv (.tmp 19))]
def c4r4 : List GOp := [
 gv 20 (.load 1 true (.tmp 2)),
 gv 21 (.call 12 [(.tmp 20)]),
 gv 6 (.mv (.tmp 21))]
def c4r5 : List GOp := [
 gv 7 (.mv (.const (.int .i64 0)))]
def c4r6 : List GOp := [
 gv 22 (.mv (.tmp 7)),
 gv 23 (.mv (.tmp 6)),
 gv 24 (.len false (.tmp 23)),
 gv 25 (.bin .lss (.tmp 22) (.tmp 24))]
def c4r7 : List GOp := [
 gv 28 (.mv (.tmp 6)),
 gv 29 (.mv (.tmp 7)),
 gv 30 (.idxA 13 (.tmp 28) (.tmp 29)),
 gv 31 (.load 13 true (.tmp 30)),
 gv 8 (.alloc 35 (.agg #[oz, oz, oz, oz, oz, oz, oz, oz, oz, oz, oz, oz, oz])),
 ⟨none, .store 13 (.tmp 8) (.tmp 31), none⟩]
def c4r8 : List GOp := [
 gv 32 (.fadd 1 (.tmp 8)),
 gv 33 (.load 1 false (.tmp 32)),
 gv 34 (.bin .lss (.tmp 33) (.const (.int .i64 0))),
 gv 35 (.mv (.tmp 34)),
 gw 36 35 false (.fadd 1 (.tmp 8)),
 gw 37 35 false (.load 1 false (.tmp 36)),
 gw 38 35 false (.fadd 0 (.tmp 2)),
 gw 39 35 false (.load 1 false (.tmp 38)),
 gw 40 35 false (.len false (.tmp 39)),
 gw 41 35 false (.bin .geq (.tmp 37) (.tmp 40)),
 gv 42 (.pick (.tmp 35) (.const (.bool true)) (.tmp 41)),
 gv 43 (.mv (.tmp 42)),
 gw 44 43 false (.fadd 2 (.tmp 8)),
 gw 45 43 false (.load 1 false (.tmp 44)),
 gw 46 43 false (.bin .geq (.tmp 45) (.const (.int .i64 0))),
 gw 47 43 false (.fadd 0 (.tmp 8)),
 gw 48 43 false (.load 1 false (.tmp 47)),
 gw 49 43 false (.bin .eql (.tmp 48) (.const (.int .i64 3))),
 gw 50 43 false (.beq true [] (.tmp 46) (.tmp 49)),
 gv 51 (.pick (.tmp 43) (.const (.bool true)) (.tmp 50)),
 gv 52 (.mv (.tmp 51)),
 gw 53 52 false (.fadd 2 (.tmp 8)),
 gw 54 52 false (.load 1 false (.tmp 53)),
 gw 55 52 false (.fadd 0 (.tmp 2)),
 gw 56 52 false (.load 1 false (.tmp 55)),
 gw 57 52 false (.len false (.tmp 56)),
 gw 58 52 false (.bin .geq (.tmp 54) (.tmp 57)),
 gv 59 (.pick (.tmp 52) (.const (.bool true)) (.tmp 58))]
def c4r9 : List GOp := [
 gv 4 (.mv (.const (.bool false)))]
def c4r10 : List GOp := [
 gv 60 (.fadd 0 (.tmp 8)),
 gv 61 (.load 1 false (.tmp 60)),
 gv 62 (.bin .eql (.tmp 61) (.const (.int .i64 1)))]
def c4r11 : List GOp := [
 gv 63 (.fadd 0 (.tmp 2)),
 gv 64 (.load 1 false (.tmp 63)),
 gv 65 (.fadd 1 (.tmp 8)),
 gv 66 (.load 1 false (.tmp 65)),
 gv 67 (.idxA 8 (.tmp 64) (.tmp 66)),
 gv 68 (.load 8 true (.tmp 67)),
 gv 69 (.load 10 true (.tmp 3)),
 gv 70 (.call 15 [(.tmp 68), (.tmp 69)]),
 gv 71 (.mv (.tmp 70)),
 gw 72 71 false (.fadd 3 (.tmp 8)),
 gw 73 71 false (.load 10 true (.tmp 72)),
 gw 74 71 false (.build (.agg #[oz, oz, oz, oz, oz, oz, oz, oz, oz, oz]) []),
 gw 75 71 false (.beq true [.int, .int, .int, .int, .int, .int, .int, .int, .int, .int] (.tmp 73) (.tmp 74)),
 gv 76 (.pick (.tmp 71) (.const (.bool true)) (.tmp 75))]
def c4r12 : List GOp := [
 gv 4 (.mv (.const (.bool false)))]
def c4r13 : List GOp := [
 gv 77 (.fadd 2 (.tmp 8)),
 gv 78 (.load 1 false (.tmp 77)),
 gv 79 (.fadd 1 (.tmp 8)),
 gv 80 (.load 1 false (.tmp 79)),
 gv 81 (.mm true (.tmp 78) [(.tmp 80)]),
 gv 9 (.mv (.tmp 81))]
def c4r14 : List GOp := [
 gv 82 (.fadd 2 (.tmp 8)),
 gv 83 (.load 1 false (.tmp 82)),
 gv 84 (.bin .geq (.tmp 83) (.const (.int .i64 0)))]
def c4r15 : List GOp := [
 gv 85 (.fadd 2 (.tmp 8)),
 gv 86 (.load 1 false (.tmp 85)),
 gv 9 (.mv (.tmp 86))]
def c4r16 : List GOp := [
 gv 87 (.fadd 0 (.tmp 2)),
 gv 88 (.load 1 false (.tmp 87)),
 gv 89 (.fadd 1 (.tmp 8)),
 gv 90 (.load 1 false (.tmp 89)),
 gv 91 (.idxA 8 (.tmp 88) (.tmp 90)),
 gv 92 (.load 8 true (.tmp 91)),
 gv 93 (.fadd 3 (.tmp 8)),
 gv 94 (.load 10 true (.tmp 93)),
 gv 95 (.call 15 [(.tmp 92), (.tmp 94)]),
 gv 96 (.un .not (.tmp 95)),
 gv 97 (.mv (.tmp 96)),
 gw 98 97 false (.fadd 0 (.tmp 2)),
 gw 99 97 false (.load 1 false (.tmp 98)),
 gw 100 97 false (.mv (.tmp 9)),
 gw 101 97 false (.idxA 8 (.tmp 99) (.tmp 100)),
 gw 102 97 false (.load 8 true (.tmp 101)),
 gw 103 97 false (.fadd 3 (.tmp 8)),
 gw 104 97 false (.load 10 true (.tmp 103)),
 gw 105 97 false (.call 15 [(.tmp 102), (.tmp 104)]),
 gw 106 97 false (.un .not (.tmp 105)),
 gv 107 (.pick (.tmp 97) (.const (.bool true)) (.tmp 106)),
 gv 108 (.mv (.tmp 107)),
 gw 109 108 false (.fadd 3 (.tmp 8)),
 gw 110 108 false (.load 10 true (.tmp 109)),
 gw 111 108 false (.call 14 [(.tmp 110)]),
 gw 112 108 false (.un .not (.tmp 111)),
 gv 113 (.pick (.tmp 108) (.const (.bool true)) (.tmp 112)),
 gv 114 (.mv (.tmp 113)),
 gw 115 114 false (.load 10 true (.tmp 3)),
 gw 116 114 false (.fadd 3 (.tmp 8)),
 gw 117 114 false (.load 10 true (.tmp 116)),
 gw 118 114 false (.call 16 [(.tmp 115), (.tmp 117)]),
 gw 119 114 false (.mv (.tmp 118)),
 gw 120 119 true (.fadd 0 (.tmp 2)),
 gw 121 119 true (.load 1 false (.tmp 120)),
 gw 122 119 true (.fadd 1 (.tmp 8)),
 gw 123 119 true (.load 1 false (.tmp 122)),
 gw 124 119 true (.idxA 8 (.tmp 121) (.tmp 123)),
 gw 125 119 true (.load 8 true (.tmp 124)),
 gw 126 119 true (.load 10 true (.tmp 3)),
 gw 127 119 true (.call 15 [(.tmp 125), (.tmp 126)]),
 gw 128 114 false (.pick (.tmp 119) (.tmp 127) (.const (.bool false))),
 gw 129 114 false (.mv (.tmp 128)),
 gw 130 129 true (.fadd 0 (.tmp 2)),
 gw 131 129 true (.load 1 false (.tmp 130)),
 gw 132 129 true (.mv (.tmp 9)),
 gw 133 129 true (.idxA 8 (.tmp 131) (.tmp 132)),
 gw 134 129 true (.load 8 true (.tmp 133)),
 gw 135 129 true (.load 10 true (.tmp 3)),
 gw 136 129 true (.call 15 [(.tmp 134), (.tmp 135)]),
 gw 137 114 false (.pick (.tmp 129) (.tmp 136) (.const (.bool false))),
 gv 138 (.pick (.tmp 114) (.const (.bool true)) (.tmp 137))]
def c4r17 : List GOp := [
 gv 4 (.mv (.const (.bool false)))]
def c4r18 : List GOp := [
 gv 139 (.fadd 0 (.tmp 8)),
 gv 140 (.load 1 false (.tmp 139)),
 gv 141 (.bin .eql (.tmp 140) (.const (.int .i64 2))),
 gv 142 (.mv (.tmp 141)),
 gw 143 142 true (.load 1 true (.tmp 2)),
 gw 144 142 true (.load 10 true (.tmp 3)),
 gw 145 142 true (.call 18 [(.tmp 143), (.tmp 144)]),
 gw 146 142 true (.load 1 true (.tmp 2)),
 gw 147 142 true (.fadd 1 (.tmp 8)),
 gw 148 142 true (.load 1 false (.tmp 147)),
 gw 149 142 true (.call 19 [(.tmp 146), (.tmp 148)]),
 gw 150 142 true (.load 10 true (.tmp 3)),
 gw 151 142 true (.call 18 [(.tmp 149), (.tmp 150)]),
 gw 152 142 true (.call 17 [(.tmp 145), (.tmp 151)]),
 gw 153 142 true (.un .not (.tmp 152)),
 gv 154 (.pick (.tmp 142) (.tmp 153) (.const (.bool false)))]
def c4r19 : List GOp := [
 gv 4 (.mv (.const (.bool false)))]
def c4r20 : List GOp := [
 gv 26 (.mv (.tmp 7)),
 gv 27 (.bin .add (.tmp 26) (.const (.int .i64 1))),
 gv 7 (.mv (.tmp 27))]
def c4l21 : DE := .seq (.seq (.reg c4r6) (.cond (.tmp 25) (.skip) (.exit 0))) (.join (.block 1 (.seq (.reg c4r7) (.seq (.join (.reg c4r8) (.cond (.tmp 59) (.seq (.reg c4r9) (.ret)) (.skip))) (.seq (.seq (.reg c4r10) (.cond (.tmp 62) (.seq (.join (.par false false false 12 c4r11) (.cond (.tmp 76) (.seq (.reg c4r12) (.ret)) (.skip))) (.exit 1)) (.skip))) (.seq (.reg c4r13) (.join (.seq (.reg c4r14) (.cond (.tmp 84) (.reg c4r15) (.skip))) (.seq (.join (.par false false false 49 c4r16) (.cond (.tmp 138) (.seq (.reg c4r17) (.ret)) (.skip))) (.join (.par false false false 12 c4r18) (.cond (.tmp 154) (.seq (.reg c4r19) (.ret)) (.skip)))))))))) (.reg c4r20))
def c4r22 : List GOp := [
 gv 155 (.mv (.tmp 5)),
 gv 4 (.mv (.tmp 155))]
def c4 : EFn := ⟨156, .seq (.reg c4r0) (.seq (.reg c4r1) (.seq (.join (.reg c4r2) (.cond (.tmp 18) (.seq (.reg c4r3) (.ret)) (.skip))) (.seq (.reg c4r4) (.join (.seq (.reg c4r5) (.block 0 (.loop c4l21))) (.seq (.reg c4r22) (.ret)))))), [.tmp 4]⟩
end Go.SX.Cl
