/- Parts of the proof. -/
import Derived.Test.YtlahdopmiplnoaaYSxN
import Derived.Test.YtlahdopmiplnoaaProg
set_option linter.unusedSimpArgs false
set_option linter.unusedVariables false
set_option linter.unusedSectionVars false
namespace Go.SX.Runs
open Go Go.SX Go.Proofs
set_option maxRecDepth 100000
/- foyer/foyerlaw11.RunsMatchReference -/
def d3r0 : List GOp := [
  ⟨(some 6), .mv (.const (.bool false)), none⟩]
def d3r1 : List GOp := [
  ⟨(some 9), .call 10 [], none⟩,
  ⟨(some 7), .mv (.tmp 9), none⟩]
def d3r2 : List GOp := [
  ⟨(some 10), .mv (.tmp 0), none⟩,
  ⟨(some 11), .mv (.tmp 1), none⟩,
  ⟨(some 12), .mv (.tmp 2), none⟩,
  ⟨(some 13), .call 11 [(.tmp 10), (.tmp 11), (.tmp 12)], none⟩,
  ⟨(some 14), .un .not (.tmp 13), none⟩]
def d3r3 : List GOp := [
  ⟨(some 15), .mv (.tmp 7), none⟩,
  ⟨(some 6), .mv (.tmp 15), none⟩]
def d3r4 : List GOp := [
  ⟨(some 16), .mv (.tmp 0), none⟩,
  ⟨(some 17), .call 13 [(.tmp 16)], none⟩,
  ⟨(some 18), .mv (.tmp 0), none⟩,
  ⟨(some 19), .call 14 [(.tmp 18)], none⟩,
  ⟨(some 20), .call 12 [(.tmp 17), (.tmp 19)], none⟩,
  ⟨(some 21), .mv (.tmp 20), none⟩,
  ⟨(some 22), .mv (.tmp 0), (some (21, true))⟩,
  ⟨(some 23), .mv (.tmp 1), (some (21, true))⟩,
  ⟨(some 24), .call 15 [(.tmp 22), (.tmp 23)], (some (21, true))⟩,
  ⟨(some 25), .mv (.tmp 0), (some (21, true))⟩,
  ⟨(some 26), .mv (.tmp 1), (some (21, true))⟩,
  ⟨(some 27), .call 16 [(.tmp 25), (.tmp 26)], (some (21, true))⟩,
  ⟨(some 28), .call 12 [(.tmp 24), (.tmp 27)], (some (21, true))⟩,
  ⟨(some 29), .pick (.tmp 21) (.tmp 28) (.const (.bool false)), none⟩,
  ⟨(some 8), .mv (.tmp 29), none⟩]
def d3r5 : List GOp := [
  ⟨(some 30), .mv (.tmp 7), none⟩,
  ⟨(some 31), .mv (.tmp 30), none⟩,
  ⟨(some 32), .mv (.tmp 8), (some (31, true))⟩,
  ⟨(some 33), .pick (.tmp 31) (.tmp 32) (.const (.bool false)), none⟩,
  ⟨(some 34), .mv (.tmp 33), none⟩,
  ⟨(some 35), .mv (.tmp 0), (some (34, true))⟩,
  ⟨(some 36), .mv (.tmp 2), (some (34, true))⟩,
  ⟨(some 37), .call 17 [(.tmp 35), (.tmp 36)], (some (34, true))⟩,
  ⟨(some 38), .mv (.tmp 0), (some (34, true))⟩,
  ⟨(some 39), .mv (.tmp 2), (some (34, true))⟩,
  ⟨(some 40), .call 18 [(.tmp 38), (.tmp 39)], (some (34, true))⟩,
  ⟨(some 41), .beq false (.tmp 37) (.tmp 40), (some (34, true))⟩,
  ⟨(some 42), .pick (.tmp 34) (.tmp 41) (.const (.bool false)), none⟩,
  ⟨(some 43), .mv (.tmp 42), none⟩,
  ⟨(some 44), .mv (.tmp 0), (some (43, true))⟩,
  ⟨(some 45), .mv (.tmp 1), (some (43, true))⟩,
  ⟨(some 46), .mv (.tmp 2), (some (43, true))⟩,
  ⟨(some 47), .call 20 [(.tmp 44), (.tmp 45), (.tmp 46)], (some (43, true))⟩,
  ⟨(some 48), .mv (.tmp 0), (some (43, true))⟩,
  ⟨(some 49), .mv (.tmp 1), (some (43, true))⟩,
  ⟨(some 50), .mv (.tmp 2), (some (43, true))⟩,
  ⟨(some 51), .call 21 [(.tmp 48), (.tmp 49), (.tmp 50)], (some (43, true))⟩,
  ⟨(some 52), .call 19 [(.tmp 47), (.tmp 51)], (some (43, true))⟩,
  ⟨(some 53), .pick (.tmp 43) (.tmp 52) (.const (.bool false)), none⟩,
  ⟨(some 6), .mv (.tmp 53), none⟩]
def d3c : DC := .seq (.reg d3r0) (.seq (.reg d3r1) (.seq (.seq (.reg d3r2) (.cond (.tmp 14) (.seq (.reg d3r3) (.ret)) (.skip))) (.seq (.reg d3r4) (.seq (.reg d3r5) (.ret)))))
def d3 : DFn := ⟨54, d3c, [.tmp 6]⟩
theorem d3_ok : compF Try.prog 3 = some d3 := by kernel_rfl
/- foyer/foyerlaw11.RunsRows -/
def d4r0 : List GOp := [
  ⟨(some 2), .mv (.const (.bool false)), none⟩]
def d4r1 : List GOp := [
  ⟨(some 11), .call 10 [], none⟩,
  ⟨(some 3), .mv (.tmp 11), none⟩]
def d4r2 : List GOp := [
  ⟨(some 12), .mv (.tmp 0), none⟩,
  ⟨(some 13), .call 11 [(.tmp 12), (.const (.slice none 0 0)), (.const (.slice none 0 0))], none⟩,
  ⟨(some 14), .un .not (.tmp 13), none⟩,
  ⟨(some 15), .mv (.tmp 14), none⟩,
  ⟨(some 16), .mv (.tmp 0), (some (15, false))⟩,
  ⟨(some 17), .call 22 [(.tmp 16)], (some (15, false))⟩,
  ⟨(some 18), .un .not (.tmp 17), (some (15, false))⟩,
  ⟨(some 19), .pick (.tmp 15) (.const (.bool true)) (.tmp 18), none⟩]
def d4r3 : List GOp := [
  ⟨(some 20), .mv (.tmp 3), none⟩,
  ⟨(some 2), .mv (.tmp 20), none⟩]
def d4r4 : List GOp := [
  ⟨(some 21), .mv (.tmp 0), none⟩,
  ⟨(some 22), .call 13 [(.tmp 21)], none⟩,
  ⟨(some 4), .mv (.tmp 22), none⟩]
def d4r5 : List GOp := [
  ⟨(some 23), .mv (.tmp 0), none⟩,
  ⟨(some 24), .len false (.tmp 23), none⟩,
  ⟨(some 25), .mks 3 1 8 (.int .i64 0) (.tmp 24) (.tmp 24), none⟩,
  ⟨(some 5), .mv (.tmp 25), none⟩]
def d4r6 : List GOp := [
  ⟨(some 6), .mv (.const (.int .i64 0)), none⟩]
def d4r7 : List GOp := [
  ⟨(some 26), .mv (.tmp 6), none⟩,
  ⟨(some 27), .mv (.tmp 4), none⟩,
  ⟨(some 28), .len false (.tmp 27), none⟩,
  ⟨(some 29), .bin .lss (.tmp 26) (.tmp 28), none⟩]
def d4r8 : List GOp := [
  ⟨(some 32), .mv (.tmp 4), none⟩,
  ⟨(some 33), .mv (.tmp 6), none⟩,
  ⟨(some 34), .idxA 1 (.tmp 32) (.tmp 33), none⟩,
  ⟨(some 35), .load 1 false (.tmp 34), none⟩,
  ⟨(some 36), .len false (.tmp 35), none⟩,
  ⟨(some 37), .bin .eql (.tmp 36) (.const (.int .i64 0)), none⟩]
def d4r9 : List GOp := [
  ⟨(some 2), .mv (.const (.bool false)), none⟩]
def d4r10 : List GOp := [
  ⟨(some 7), .mv (.const (.int .i64 0)), none⟩]
def d4r11 : List GOp := [
  ⟨(some 38), .mv (.tmp 7), none⟩,
  ⟨(some 39), .mv (.tmp 4), none⟩,
  ⟨(some 40), .mv (.tmp 6), none⟩,
  ⟨(some 41), .idxA 1 (.tmp 39) (.tmp 40), none⟩,
  ⟨(some 42), .load 1 false (.tmp 41), none⟩,
  ⟨(some 43), .len false (.tmp 42), none⟩,
  ⟨(some 44), .bin .lss (.tmp 38) (.tmp 43), none⟩]
def d4r12 : List GOp := [
  ⟨(some 47), .mv (.tmp 4), none⟩,
  ⟨(some 48), .mv (.tmp 6), none⟩,
  ⟨(some 49), .idxA 1 (.tmp 47) (.tmp 48), none⟩,
  ⟨(some 50), .load 1 false (.tmp 49), none⟩,
  ⟨(some 51), .mv (.tmp 7), none⟩,
  ⟨(some 52), .idxA 1 (.tmp 50) (.tmp 51), none⟩,
  ⟨(some 53), .load 1 false (.tmp 52), none⟩,
  ⟨(some 8), .mv (.tmp 53), none⟩]
def d4r13 : List GOp := [
  ⟨(some 54), .mv (.tmp 8), none⟩,
  ⟨(some 55), .bin .lss (.tmp 54) (.const (.int .i64 0)), none⟩,
  ⟨(some 56), .mv (.tmp 55), none⟩,
  ⟨(some 57), .mv (.tmp 8), (some (56, false))⟩,
  ⟨(some 58), .mv (.tmp 0), (some (56, false))⟩,
  ⟨(some 59), .len false (.tmp 58), (some (56, false))⟩,
  ⟨(some 60), .bin .geq (.tmp 57) (.tmp 59), (some (56, false))⟩,
  ⟨(some 61), .pick (.tmp 56) (.const (.bool true)) (.tmp 60), none⟩,
  ⟨(some 62), .mv (.tmp 61), none⟩,
  ⟨(some 63), .mv (.tmp 7), (some (62, false))⟩,
  ⟨(some 64), .bin .gtr (.tmp 63) (.const (.int .i64 0)), (some (62, false))⟩,
  ⟨(some 65), .mv (.tmp 64), (some (62, false))⟩,
  ⟨(some 66), .mv (.tmp 0), (some (65, true))⟩,
  ⟨(some 67), .mv (.tmp 4), (some (65, true))⟩,
  ⟨(some 68), .mv (.tmp 6), (some (65, true))⟩,
  ⟨(some 69), .idxA 1 (.tmp 67) (.tmp 68), (some (65, true))⟩,
  ⟨(some 70), .load 1 false (.tmp 69), (some (65, true))⟩,
  ⟨(some 71), .mv (.tmp 7), (some (65, true))⟩,
  ⟨(some 72), .bin .sub (.tmp 71) (.const (.int .i64 1)), (some (65, true))⟩,
  ⟨(some 73), .mm true (.tmp 72) [(.const (.int .i64 0))], (some (65, true))⟩,
  ⟨(some 74), .idxA 1 (.tmp 70) (.tmp 73), (some (65, true))⟩,
  ⟨(some 75), .load 1 false (.tmp 74), (some (65, true))⟩,
  ⟨(some 76), .idxA 9 (.tmp 66) (.tmp 75), (some (65, true))⟩,
  ⟨(some 77), .load 9 true (.tmp 76), (some (65, true))⟩,
  ⟨(some 78), .mv (.tmp 0), (some (65, true))⟩,
  ⟨(some 79), .mv (.tmp 8), (some (65, true))⟩,
  ⟨(some 80), .idxA 9 (.tmp 78) (.tmp 79), (some (65, true))⟩,
  ⟨(some 81), .load 9 true (.tmp 80), (some (65, true))⟩,
  ⟨(some 82), .call 23 [(.tmp 77), (.tmp 81)], (some (65, true))⟩,
  ⟨(some 83), .un .not (.tmp 82), (some (65, true))⟩,
  ⟨(some 84), .pick (.tmp 65) (.tmp 83) (.const (.bool false)), (some (62, false))⟩,
  ⟨(some 85), .pick (.tmp 62) (.const (.bool true)) (.tmp 84), none⟩]
def d4r14 : List GOp := [
  ⟨(some 2), .mv (.const (.bool false)), none⟩]
def d4r15 : List GOp := [
  ⟨(some 86), .mv (.tmp 5), none⟩,
  ⟨(some 87), .mv (.tmp 8), none⟩,
  ⟨(some 88), .idxA 1 (.tmp 86) (.tmp 87), none⟩,
  ⟨(some 89), .load 1 false (.tmp 88), none⟩,
  ⟨(some 90), .bin .add (.tmp 89) (.const (.int .i64 1)), none⟩,
  ⟨(some 91), .idxA 1 (.tmp 86) (.tmp 87), none⟩,
  ⟨none, .store 1 (.tmp 91) (.tmp 90), none⟩]
def d4r16 : List GOp := [
  ⟨(some 45), .mv (.tmp 7), none⟩,
  ⟨(some 46), .bin .add (.tmp 45) (.const (.int .i64 1)), none⟩,
  ⟨(some 7), .mv (.tmp 46), none⟩]
def d4l17 : DC := .seq (.seq (.reg d4r11) (.cond (.tmp 44) (.skip) (.exit 2))) (.seq (.block 3 (.seq (.reg d4r12) (.seq (.seq (.par d4r13) (.cond (.tmp 85) (.seq (.reg d4r14) (.ret)) (.skip))) (.reg d4r15)))) (.reg d4r16))
def d4r18 : List GOp := [
  ⟨(some 9), .mv (.const (.int .i64 0)), none⟩]
def d4r19 : List GOp := [
  ⟨(some 92), .mv (.tmp 9), none⟩,
  ⟨(some 93), .mv (.tmp 0), none⟩,
  ⟨(some 94), .len false (.tmp 93), none⟩,
  ⟨(some 95), .bin .lss (.tmp 92) (.tmp 94), none⟩]
def d4r20 : List GOp := [
  ⟨(some 98), .mv (.tmp 0), none⟩,
  ⟨(some 99), .mv (.tmp 4), none⟩,
  ⟨(some 100), .mv (.tmp 6), none⟩,
  ⟨(some 101), .idxA 1 (.tmp 99) (.tmp 100), none⟩,
  ⟨(some 102), .load 1 false (.tmp 101), none⟩,
  ⟨(some 103), .mv (.tmp 4), none⟩,
  ⟨(some 104), .mv (.tmp 6), none⟩,
  ⟨(some 105), .idxA 1 (.tmp 103) (.tmp 104), none⟩,
  ⟨(some 106), .load 1 false (.tmp 105), none⟩,
  ⟨(some 107), .len false (.tmp 106), none⟩,
  ⟨(some 108), .bin .sub (.tmp 107) (.const (.int .i64 1)), none⟩,
  ⟨(some 109), .idxA 1 (.tmp 102) (.tmp 108), none⟩,
  ⟨(some 110), .load 1 false (.tmp 109), none⟩,
  ⟨(some 111), .idxA 9 (.tmp 98) (.tmp 110), none⟩,
  ⟨(some 112), .load 9 true (.tmp 111), none⟩,
  ⟨(some 113), .mv (.tmp 0), none⟩,
  ⟨(some 114), .mv (.tmp 9), none⟩,
  ⟨(some 115), .idxA 9 (.tmp 113) (.tmp 114), none⟩,
  ⟨(some 116), .load 9 true (.tmp 115), none⟩,
  ⟨(some 117), .call 23 [(.tmp 112), (.tmp 116)], none⟩]
def d4r21 : List GOp := [
  ⟨(some 2), .mv (.const (.bool false)), none⟩]
def d4r22 : List GOp := [
  ⟨(some 96), .mv (.tmp 9), none⟩,
  ⟨(some 97), .bin .add (.tmp 96) (.const (.int .i64 1)), none⟩,
  ⟨(some 9), .mv (.tmp 97), none⟩]
def d4l23 : DC := .seq (.seq (.reg d4r19) (.cond (.tmp 95) (.skip) (.exit 4))) (.seq (.block 5 (.seq (.par d4r20) (.cond (.tmp 117) (.seq (.reg d4r21) (.ret)) (.skip)))) (.reg d4r22))
def d4r24 : List GOp := [
  ⟨(some 30), .mv (.tmp 6), none⟩,
  ⟨(some 31), .bin .add (.tmp 30) (.const (.int .i64 1)), none⟩,
  ⟨(some 6), .mv (.tmp 31), none⟩]
def d4l25 : DC := .seq (.seq (.reg d4r7) (.cond (.tmp 29) (.skip) (.exit 0))) (.seq (.block 1 (.seq (.seq (.reg d4r8) (.cond (.tmp 37) (.seq (.reg d4r9) (.ret)) (.skip))) (.seq (.seq (.reg d4r10) (.block 2 (.loop d4l17))) (.seq (.reg d4r18) (.block 4 (.loop d4l23)))))) (.reg d4r24))
def d4r26 : List GOp := [
  ⟨(some 10), .mv (.const (.int .i64 0)), none⟩]
def d4r27 : List GOp := [
  ⟨(some 118), .mv (.tmp 10), none⟩,
  ⟨(some 119), .mv (.tmp 0), none⟩,
  ⟨(some 120), .len false (.tmp 119), none⟩,
  ⟨(some 121), .bin .lss (.tmp 118) (.tmp 120), none⟩]
def d4r28 : List GOp := [
  ⟨(some 124), .mv (.tmp 0), none⟩,
  ⟨(some 125), .mv (.tmp 10), none⟩,
  ⟨(some 126), .idxA 9 (.tmp 124) (.tmp 125), none⟩,
  ⟨(some 127), .load 9 true (.tmp 126), none⟩,
  ⟨(some 128), .call 24 [(.tmp 127)], none⟩,
  ⟨(some 129), .mv (.tmp 5), none⟩,
  ⟨(some 130), .mv (.tmp 10), none⟩,
  ⟨(some 131), .idxA 1 (.tmp 129) (.tmp 130), none⟩,
  ⟨(some 132), .load 1 false (.tmp 131), none⟩,
  ⟨(some 133), .bin .eql (.tmp 132) (.const (.int .i64 1)), none⟩,
  ⟨(some 134), .beq true (.tmp 128) (.tmp 133), none⟩,
  ⟨(some 135), .mv (.tmp 134), none⟩,
  ⟨(some 136), .mv (.tmp 5), (some (135, false))⟩,
  ⟨(some 137), .mv (.tmp 10), (some (135, false))⟩,
  ⟨(some 138), .idxA 1 (.tmp 136) (.tmp 137), (some (135, false))⟩,
  ⟨(some 139), .load 1 false (.tmp 138), (some (135, false))⟩,
  ⟨(some 140), .bin .gtr (.tmp 139) (.const (.int .i64 1)), (some (135, false))⟩,
  ⟨(some 141), .pick (.tmp 135) (.const (.bool true)) (.tmp 140), none⟩]
def d4r29 : List GOp := [
  ⟨(some 2), .mv (.const (.bool false)), none⟩]
def d4r30 : List GOp := [
  ⟨(some 122), .mv (.tmp 10), none⟩,
  ⟨(some 123), .bin .add (.tmp 122) (.const (.int .i64 1)), none⟩,
  ⟨(some 10), .mv (.tmp 123), none⟩]
def d4l31 : DC := .seq (.seq (.reg d4r27) (.cond (.tmp 121) (.skip) (.exit 6))) (.seq (.block 7 (.seq (.par d4r28) (.cond (.tmp 141) (.seq (.reg d4r29) (.ret)) (.skip)))) (.reg d4r30))
def d4r32 : List GOp := [
  ⟨(some 142), .mv (.tmp 3), none⟩,
  ⟨(some 2), .mv (.tmp 142), none⟩]
def d4c : DC := .seq (.reg d4r0) (.seq (.reg d4r1) (.seq (.seq (.reg d4r2) (.cond (.tmp 19) (.seq (.reg d4r3) (.ret)) (.skip))) (.seq (.reg d4r4) (.seq (.reg d4r5) (.seq (.seq (.reg d4r6) (.block 0 (.loop d4l25))) (.seq (.seq (.reg d4r26) (.block 6 (.loop d4l31))) (.seq (.reg d4r32) (.ret))))))))
def d4 : DFn := ⟨143, d4c, [.tmp 2]⟩
theorem d4_ok : compF Try.prog 4 = some d4 := by kernel_rfl
/- foyer/foyerlaw11.RunsFree -/
def d5r0 : List GOp := [
  ⟨(some 4), .mv (.const (.bool false)), none⟩]
def d5r1 : List GOp := [
  ⟨(some 14), .call 10 [], none⟩,
  ⟨(some 5), .mv (.tmp 14), none⟩]
def d5r2 : List GOp := [
  ⟨(some 15), .mv (.tmp 0), none⟩,
  ⟨(some 16), .mv (.tmp 1), none⟩,
  ⟨(some 17), .call 11 [(.tmp 15), (.tmp 16), (.const (.slice none 0 0))], none⟩,
  ⟨(some 18), .un .not (.tmp 17), none⟩,
  ⟨(some 19), .mv (.tmp 18), none⟩,
  ⟨(some 20), .mv (.tmp 0), (some (19, false))⟩,
  ⟨(some 21), .call 22 [(.tmp 20)], (some (19, false))⟩,
  ⟨(some 22), .un .not (.tmp 21), (some (19, false))⟩,
  ⟨(some 23), .pick (.tmp 19) (.const (.bool true)) (.tmp 22), none⟩]
def d5r3 : List GOp := [
  ⟨(some 24), .mv (.tmp 5), none⟩,
  ⟨(some 4), .mv (.tmp 24), none⟩]
def d5r4 : List GOp := [
  ⟨(some 25), .mv (.tmp 0), none⟩,
  ⟨(some 26), .mv (.tmp 1), none⟩,
  ⟨(some 27), .call 15 [(.tmp 25), (.tmp 26)], none⟩,
  ⟨(some 6), .mv (.tmp 27), none⟩]
def d5r5 : List GOp := [
  ⟨(some 28), .mv (.tmp 0), none⟩,
  ⟨(some 29), .len false (.tmp 28), none⟩,
  ⟨(some 30), .mks 3 1 8 (.int .i64 0) (.tmp 29) (.tmp 29), none⟩,
  ⟨(some 7), .mv (.tmp 30), none⟩]
def d5r6 : List GOp := [
  ⟨(some 8), .mv (.const (.int .i64 0)), none⟩]
def d5r7 : List GOp := [
  ⟨(some 31), .mv (.tmp 8), none⟩,
  ⟨(some 32), .mv (.tmp 6), none⟩,
  ⟨(some 33), .len false (.tmp 32), none⟩,
  ⟨(some 34), .bin .lss (.tmp 31) (.tmp 33), none⟩]
def d5r8 : List GOp := [
  ⟨(some 9), .mv (.const (.int .i64 0)), none⟩]
def d5r9 : List GOp := [
  ⟨(some 37), .mv (.tmp 9), none⟩,
  ⟨(some 38), .mv (.tmp 6), none⟩,
  ⟨(some 39), .mv (.tmp 8), none⟩,
  ⟨(some 40), .idxA 1 (.tmp 38) (.tmp 39), none⟩,
  ⟨(some 41), .load 1 false (.tmp 40), none⟩,
  ⟨(some 42), .len false (.tmp 41), none⟩,
  ⟨(some 43), .bin .lss (.tmp 37) (.tmp 42), none⟩]
def d5r10 : List GOp := [
  ⟨(some 46), .mv (.tmp 6), none⟩,
  ⟨(some 47), .mv (.tmp 8), none⟩,
  ⟨(some 48), .idxA 1 (.tmp 46) (.tmp 47), none⟩,
  ⟨(some 49), .load 1 false (.tmp 48), none⟩,
  ⟨(some 50), .mv (.tmp 9), none⟩,
  ⟨(some 51), .idxA 1 (.tmp 49) (.tmp 50), none⟩,
  ⟨(some 52), .load 1 false (.tmp 51), none⟩,
  ⟨(some 10), .mv (.tmp 52), none⟩]
def d5r11 : List GOp := [
  ⟨(some 53), .mv (.tmp 10), none⟩,
  ⟨(some 54), .bin .lss (.tmp 53) (.const (.int .i64 0)), none⟩,
  ⟨(some 55), .mv (.tmp 54), none⟩,
  ⟨(some 56), .mv (.tmp 10), (some (55, false))⟩,
  ⟨(some 57), .mv (.tmp 0), (some (55, false))⟩,
  ⟨(some 58), .len false (.tmp 57), (some (55, false))⟩,
  ⟨(some 59), .bin .geq (.tmp 56) (.tmp 58), (some (55, false))⟩,
  ⟨(some 60), .pick (.tmp 55) (.const (.bool true)) (.tmp 59), none⟩,
  ⟨(some 61), .mv (.tmp 60), none⟩,
  ⟨(some 62), .mv (.tmp 7), (some (61, false))⟩,
  ⟨(some 63), .mv (.tmp 10), (some (61, false))⟩,
  ⟨(some 64), .idxA 1 (.tmp 62) (.tmp 63), (some (61, false))⟩,
  ⟨(some 65), .load 1 false (.tmp 64), (some (61, false))⟩,
  ⟨(some 66), .bin .neq (.tmp 65) (.const (.int .i64 0)), (some (61, false))⟩,
  ⟨(some 67), .pick (.tmp 61) (.const (.bool true)) (.tmp 66), none⟩,
  ⟨(some 68), .mv (.tmp 67), none⟩,
  ⟨(some 69), .mv (.tmp 9), (some (68, false))⟩,
  ⟨(some 70), .bin .gtr (.tmp 69) (.const (.int .i64 0)), (some (68, false))⟩,
  ⟨(some 71), .mv (.tmp 70), (some (68, false))⟩,
  ⟨(some 72), .mv (.tmp 0), (some (71, true))⟩,
  ⟨(some 73), .mv (.tmp 6), (some (71, true))⟩,
  ⟨(some 74), .mv (.tmp 8), (some (71, true))⟩,
  ⟨(some 75), .idxA 1 (.tmp 73) (.tmp 74), (some (71, true))⟩,
  ⟨(some 76), .load 1 false (.tmp 75), (some (71, true))⟩,
  ⟨(some 77), .mv (.tmp 9), (some (71, true))⟩,
  ⟨(some 78), .bin .sub (.tmp 77) (.const (.int .i64 1)), (some (71, true))⟩,
  ⟨(some 79), .mm true (.tmp 78) [(.const (.int .i64 0))], (some (71, true))⟩,
  ⟨(some 80), .idxA 1 (.tmp 76) (.tmp 79), (some (71, true))⟩,
  ⟨(some 81), .load 1 false (.tmp 80), (some (71, true))⟩,
  ⟨(some 82), .idxA 9 (.tmp 72) (.tmp 81), (some (71, true))⟩,
  ⟨(some 83), .load 9 true (.tmp 82), (some (71, true))⟩,
  ⟨(some 84), .mv (.tmp 0), (some (71, true))⟩,
  ⟨(some 85), .mv (.tmp 10), (some (71, true))⟩,
  ⟨(some 86), .idxA 9 (.tmp 84) (.tmp 85), (some (71, true))⟩,
  ⟨(some 87), .load 9 true (.tmp 86), (some (71, true))⟩,
  ⟨(some 88), .call 23 [(.tmp 83), (.tmp 87)], (some (71, true))⟩,
  ⟨(some 89), .un .not (.tmp 88), (some (71, true))⟩,
  ⟨(some 90), .pick (.tmp 71) (.tmp 89) (.const (.bool false)), (some (68, false))⟩,
  ⟨(some 91), .pick (.tmp 68) (.const (.bool true)) (.tmp 90), none⟩]
def d5r12 : List GOp := [
  ⟨(some 4), .mv (.const (.bool false)), none⟩]
def d5r13 : List GOp := [
  ⟨(some 92), .mv (.tmp 7), none⟩,
  ⟨(some 93), .mv (.tmp 10), none⟩,
  ⟨(some 94), .mv (.tmp 8), none⟩,
  ⟨(some 95), .bin .add (.tmp 94) (.const (.int .i64 1)), none⟩,
  ⟨(some 96), .idxA 1 (.tmp 92) (.tmp 93), none⟩,
  ⟨none, .store 1 (.tmp 96) (.tmp 95), none⟩]
def d5r14 : List GOp := [
  ⟨(some 44), .mv (.tmp 9), none⟩,
  ⟨(some 45), .bin .add (.tmp 44) (.const (.int .i64 1)), none⟩,
  ⟨(some 9), .mv (.tmp 45), none⟩]
def d5l15 : DC := .seq (.seq (.reg d5r9) (.cond (.tmp 43) (.skip) (.exit 2))) (.seq (.block 3 (.seq (.reg d5r10) (.seq (.seq (.par d5r11) (.cond (.tmp 91) (.seq (.reg d5r12) (.ret)) (.skip))) (.reg d5r13)))) (.reg d5r14))
def d5r16 : List GOp := [
  ⟨(some 35), .mv (.tmp 8), none⟩,
  ⟨(some 36), .bin .add (.tmp 35) (.const (.int .i64 1)), none⟩,
  ⟨(some 8), .mv (.tmp 36), none⟩]
def d5l17 : DC := .seq (.seq (.reg d5r7) (.cond (.tmp 34) (.skip) (.exit 0))) (.seq (.block 1 (.seq (.reg d5r8) (.block 2 (.loop d5l15)))) (.reg d5r16))
def d5r18 : List GOp := [
  ⟨(some 11), .mv (.const (.int .i64 0)), none⟩]
def d5r19 : List GOp := [
  ⟨(some 97), .mv (.tmp 11), none⟩,
  ⟨(some 98), .mv (.tmp 0), none⟩,
  ⟨(some 99), .len false (.tmp 98), none⟩,
  ⟨(some 100), .bin .lss (.tmp 97) (.tmp 99), none⟩]
def d5r20 : List GOp := [
  ⟨(some 103), .mv (.tmp 0), none⟩,
  ⟨(some 104), .mv (.tmp 11), none⟩,
  ⟨(some 105), .idxA 9 (.tmp 103) (.tmp 104), none⟩,
  ⟨(some 106), .load 9 true (.tmp 105), none⟩,
  ⟨(some 107), .call 24 [(.tmp 106)], none⟩,
  ⟨(some 108), .mv (.tmp 107), none⟩,
  ⟨(some 109), .mv (.tmp 1), (some (108, true))⟩,
  ⟨(some 110), .mv (.tmp 11), (some (108, true))⟩,
  ⟨(some 111), .call 25 [(.tmp 109), (.tmp 110)], (some (108, true))⟩,
  ⟨(some 112), .un .not (.tmp 111), (some (108, true))⟩,
  ⟨(some 113), .pick (.tmp 108) (.tmp 112) (.const (.bool false)), none⟩,
  ⟨(some 12), .mv (.tmp 113), none⟩]
def d5r21 : List GOp := [
  ⟨(some 114), .mv (.tmp 12), none⟩,
  ⟨(some 115), .mv (.tmp 7), none⟩,
  ⟨(some 116), .mv (.tmp 11), none⟩,
  ⟨(some 117), .idxA 1 (.tmp 115) (.tmp 116), none⟩,
  ⟨(some 118), .load 1 false (.tmp 117), none⟩,
  ⟨(some 119), .bin .gtr (.tmp 118) (.const (.int .i64 0)), none⟩,
  ⟨(some 120), .beq true (.tmp 114) (.tmp 119), none⟩]
def d5r22 : List GOp := [
  ⟨(some 4), .mv (.const (.bool false)), none⟩]
def d5r23 : List GOp := [
  ⟨(some 13), .mv (.const (.int .i64 0)), none⟩]
def d5r24 : List GOp := [
  ⟨(some 121), .mv (.tmp 13), none⟩,
  ⟨(some 122), .mv (.tmp 0), none⟩,
  ⟨(some 123), .len false (.tmp 122), none⟩,
  ⟨(some 124), .bin .lss (.tmp 121) (.tmp 123), none⟩,
  ⟨(some 125), .mv (.tmp 124), none⟩,
  ⟨(some 126), .mv (.tmp 12), (some (125, true))⟩,
  ⟨(some 127), .pick (.tmp 125) (.tmp 126) (.const (.bool false)), none⟩]
def d5r25 : List GOp := [
  ⟨(some 130), .mv (.tmp 7), none⟩,
  ⟨(some 131), .mv (.tmp 13), none⟩,
  ⟨(some 132), .idxA 1 (.tmp 130) (.tmp 131), none⟩,
  ⟨(some 133), .load 1 false (.tmp 132), none⟩,
  ⟨(some 134), .bin .gtr (.tmp 133) (.const (.int .i64 0)), none⟩,
  ⟨(some 135), .mv (.tmp 134), none⟩,
  ⟨(some 136), .mv (.tmp 0), (some (135, true))⟩,
  ⟨(some 137), .mv (.tmp 11), (some (135, true))⟩,
  ⟨(some 138), .idxA 9 (.tmp 136) (.tmp 137), (some (135, true))⟩,
  ⟨(some 139), .load 9 true (.tmp 138), (some (135, true))⟩,
  ⟨(some 140), .mv (.tmp 0), (some (135, true))⟩,
  ⟨(some 141), .mv (.tmp 13), (some (135, true))⟩,
  ⟨(some 142), .idxA 9 (.tmp 140) (.tmp 141), (some (135, true))⟩,
  ⟨(some 143), .load 9 true (.tmp 142), (some (135, true))⟩,
  ⟨(some 144), .call 23 [(.tmp 139), (.tmp 143)], (some (135, true))⟩,
  ⟨(some 145), .pick (.tmp 135) (.tmp 144) (.const (.bool false)), none⟩,
  ⟨(some 146), .mv (.tmp 145), none⟩,
  ⟨(some 147), .mv (.tmp 7), (some (146, true))⟩,
  ⟨(some 148), .mv (.tmp 13), (some (146, true))⟩,
  ⟨(some 149), .idxA 1 (.tmp 147) (.tmp 148), (some (146, true))⟩,
  ⟨(some 150), .load 1 false (.tmp 149), (some (146, true))⟩,
  ⟨(some 151), .mv (.tmp 7), (some (146, true))⟩,
  ⟨(some 152), .mv (.tmp 11), (some (146, true))⟩,
  ⟨(some 153), .idxA 1 (.tmp 151) (.tmp 152), (some (146, true))⟩,
  ⟨(some 154), .load 1 false (.tmp 153), (some (146, true))⟩,
  ⟨(some 155), .bin .neq (.tmp 150) (.tmp 154), (some (146, true))⟩,
  ⟨(some 156), .pick (.tmp 146) (.tmp 155) (.const (.bool false)), none⟩]
def d5r26 : List GOp := [
  ⟨(some 4), .mv (.const (.bool false)), none⟩]
def d5r27 : List GOp := [
  ⟨(some 128), .mv (.tmp 13), none⟩,
  ⟨(some 129), .bin .add (.tmp 128) (.const (.int .i64 1)), none⟩,
  ⟨(some 13), .mv (.tmp 129), none⟩]
def d5l28 : DC := .seq (.seq (.reg d5r24) (.cond (.tmp 127) (.skip) (.exit 6))) (.seq (.block 7 (.seq (.par d5r25) (.cond (.tmp 156) (.seq (.reg d5r26) (.ret)) (.skip)))) (.reg d5r27))
def d5r29 : List GOp := [
  ⟨(some 101), .mv (.tmp 11), none⟩,
  ⟨(some 102), .bin .add (.tmp 101) (.const (.int .i64 1)), none⟩,
  ⟨(some 11), .mv (.tmp 102), none⟩]
def d5l30 : DC := .seq (.seq (.reg d5r19) (.cond (.tmp 100) (.skip) (.exit 4))) (.seq (.block 5 (.seq (.reg d5r20) (.seq (.seq (.reg d5r21) (.cond (.tmp 120) (.seq (.reg d5r22) (.ret)) (.skip))) (.seq (.reg d5r23) (.block 6 (.loop d5l28)))))) (.reg d5r29))
def d5r31 : List GOp := [
  ⟨(some 157), .mv (.tmp 5), none⟩,
  ⟨(some 158), .mv (.tmp 157), none⟩,
  ⟨(some 159), .mv (.tmp 0), (some (158, true))⟩,
  ⟨(some 160), .mv (.tmp 1), (some (158, true))⟩,
  ⟨(some 161), .len false (.tmp 160), (some (158, true))⟩,
  ⟨(some 162), .mks 4 1 1 (.bool false) (.tmp 161) (.tmp 161), (some (158, true))⟩,
  ⟨(some 163), .call 15 [(.tmp 159), (.tmp 162)], (some (158, true))⟩,
  ⟨(some 164), .mv (.tmp 0), (some (158, true))⟩,
  ⟨(some 165), .call 13 [(.tmp 164)], (some (158, true))⟩,
  ⟨(some 166), .call 12 [(.tmp 163), (.tmp 165)], (some (158, true))⟩,
  ⟨(some 167), .pick (.tmp 158) (.tmp 166) (.const (.bool false)), none⟩,
  ⟨(some 4), .mv (.tmp 167), none⟩]
def d5c : DC := .seq (.reg d5r0) (.seq (.reg d5r1) (.seq (.seq (.reg d5r2) (.cond (.tmp 23) (.seq (.reg d5r3) (.ret)) (.skip))) (.seq (.reg d5r4) (.seq (.reg d5r5) (.seq (.seq (.reg d5r6) (.block 0 (.loop d5l17))) (.seq (.seq (.reg d5r18) (.block 4 (.loop d5l30))) (.seq (.reg d5r31) (.ret))))))))
def d5 : DFn := ⟨168, d5c, [.tmp 4]⟩
theorem d5_ok : compF Try.prog 5 = some d5 := by kernel_rfl
/- foyer/foyerlaw11.RunsTogether -/
def d6r0 : List GOp := [
  ⟨(some 12), .mv (.const (.bool false)), none⟩]
def d6r1 : List GOp := [
  ⟨(some 27), .call 10 [], none⟩,
  ⟨(some 13), .mv (.tmp 27), none⟩]
def d6r2 : List GOp := [
  ⟨(some 28), .mv (.tmp 0), none⟩,
  ⟨(some 29), .mv (.tmp 1), none⟩,
  ⟨(some 30), .mv (.tmp 2), none⟩,
  ⟨(some 31), .call 11 [(.tmp 28), (.tmp 29), (.tmp 30)], none⟩,
  ⟨(some 32), .un .not (.tmp 31), none⟩,
  ⟨(some 33), .mv (.tmp 32), none⟩,
  ⟨(some 34), .mv (.tmp 0), (some (33, false))⟩,
  ⟨(some 35), .call 22 [(.tmp 34)], (some (33, false))⟩,
  ⟨(some 36), .un .not (.tmp 35), (some (33, false))⟩,
  ⟨(some 37), .pick (.tmp 33) (.const (.bool true)) (.tmp 36), none⟩]
def d6r3 : List GOp := [
  ⟨(some 38), .mv (.tmp 13), none⟩,
  ⟨(some 12), .mv (.tmp 38), none⟩]
def d6r4 : List GOp := [
  ⟨(some 14), .mv (.const (.slice none 0 0)), none⟩]
def d6r5 : List GOp := [
  ⟨(some 39), .mv (.tmp 2), none⟩,
  ⟨(some 40), .len false (.tmp 39), none⟩,
  ⟨(some 41), .bin .sub (.tmp 40) (.const (.int .i64 1)), none⟩,
  ⟨(some 15), .mv (.tmp 41), none⟩]
def d6r6 : List GOp := [
  ⟨(some 42), .mv (.tmp 15), none⟩,
  ⟨(some 43), .bin .geq (.tmp 42) (.const (.int .i64 0)), none⟩]
def d6r7 : List GOp := [
  ⟨(some 46), .mv (.tmp 14), none⟩,
  ⟨(some 47), .mv (.tmp 2), none⟩,
  ⟨(some 48), .mv (.tmp 15), none⟩,
  ⟨(some 49), .idxA 1 (.tmp 47) (.tmp 48), none⟩,
  ⟨(some 50), .load 1 false (.tmp 49), none⟩,
  ⟨(some 51), .bslice 3 1 1 (.int .i64 0) [(0, (.tmp 50))], none⟩,
  ⟨(some 52), .app 3 1 8 (.int .i64 0) (.tmp 46) (.tmp 51), none⟩,
  ⟨(some 14), .mv (.tmp 52), none⟩]
def d6r8 : List GOp := [
  ⟨(some 44), .mv (.tmp 15), none⟩,
  ⟨(some 45), .bin .sub (.tmp 44) (.const (.int .i64 1)), none⟩,
  ⟨(some 15), .mv (.tmp 45), none⟩]
def d6l9 : DC := .seq (.seq (.reg d6r6) (.cond (.tmp 43) (.skip) (.exit 0))) (.seq (.block 1 (.reg d6r7)) (.reg d6r8))
def d6r10 : List GOp := [
  ⟨(some 53), .mv (.tmp 0), none⟩,
  ⟨(some 54), .mv (.tmp 2), none⟩,
  ⟨(some 55), .call 17 [(.tmp 53), (.tmp 54)], none⟩,
  ⟨(some 16), .mv (.tmp 55), none⟩]
def d6r11 : List GOp := [
  ⟨(some 56), .mv (.tmp 0), none⟩,
  ⟨(some 57), .mv (.tmp 14), none⟩,
  ⟨(some 58), .call 17 [(.tmp 56), (.tmp 57)], none⟩,
  ⟨(some 59), .mv (.tmp 16), none⟩,
  ⟨(some 60), .beq true (.tmp 58) (.tmp 59), none⟩]
def d6r12 : List GOp := [
  ⟨(some 12), .mv (.const (.bool false)), none⟩]
def d6r13 : List GOp := [
  ⟨(some 61), .mv (.tmp 16), none⟩,
  ⟨(some 62), .mv (.tmp 61), none⟩,
  ⟨(some 63), .mv (.tmp 2), (some (62, true))⟩,
  ⟨(some 64), .len false (.tmp 63), (some (62, true))⟩,
  ⟨(some 65), .bin .gtr (.tmp 64) (.const (.int .i64 1)), (some (62, true))⟩,
  ⟨(some 66), .pick (.tmp 62) (.tmp 65) (.const (.bool false)), none⟩]
def d6r14 : List GOp := [
  ⟨(some 67), .mv (.tmp 2), none⟩,
  ⟨(some 68), .idxA 1 (.tmp 67) (.const (.int .i64 0)), none⟩,
  ⟨(some 69), .load 1 false (.tmp 68), none⟩,
  ⟨(some 17), .mv (.tmp 69), none⟩]
def d6r15 : List GOp := [
  ⟨(some 70), .mv (.tmp 2), none⟩,
  ⟨(some 71), .idxA 1 (.tmp 70) (.const (.int .i64 0)), none⟩,
  ⟨(some 72), .load 1 false (.tmp 71), none⟩,
  ⟨(some 18), .mv (.tmp 72), none⟩]
def d6r16 : List GOp := [
  ⟨(some 19), .mv (.const (.int .i64 0)), none⟩]
def d6r17 : List GOp := [
  ⟨(some 73), .mv (.tmp 19), none⟩,
  ⟨(some 74), .mv (.tmp 2), none⟩,
  ⟨(some 75), .len false (.tmp 74), none⟩,
  ⟨(some 76), .bin .lss (.tmp 73) (.tmp 75), none⟩]
def d6r18 : List GOp := [
  ⟨(some 79), .mv (.tmp 17), none⟩,
  ⟨(some 80), .mv (.tmp 2), none⟩,
  ⟨(some 81), .mv (.tmp 19), none⟩,
  ⟨(some 82), .idxA 1 (.tmp 80) (.tmp 81), none⟩,
  ⟨(some 83), .load 1 false (.tmp 82), none⟩,
  ⟨(some 84), .mm false (.tmp 79) [(.tmp 83)], none⟩,
  ⟨(some 17), .mv (.tmp 84), none⟩]
def d6r19 : List GOp := [
  ⟨(some 85), .mv (.tmp 18), none⟩,
  ⟨(some 86), .mv (.tmp 2), none⟩,
  ⟨(some 87), .mv (.tmp 19), none⟩,
  ⟨(some 88), .idxA 1 (.tmp 86) (.tmp 87), none⟩,
  ⟨(some 89), .load 1 false (.tmp 88), none⟩,
  ⟨(some 90), .mm true (.tmp 85) [(.tmp 89)], none⟩,
  ⟨(some 18), .mv (.tmp 90), none⟩]
def d6r20 : List GOp := [
  ⟨(some 77), .mv (.tmp 19), none⟩,
  ⟨(some 78), .bin .add (.tmp 77) (.const (.int .i64 1)), none⟩,
  ⟨(some 19), .mv (.tmp 78), none⟩]
def d6l21 : DC := .seq (.seq (.reg d6r17) (.cond (.tmp 76) (.skip) (.exit 2))) (.seq (.block 3 (.seq (.reg d6r18) (.reg d6r19))) (.reg d6r20))
def d6r22 : List GOp := [
  ⟨(some 20), .mv (.const (.slice none 0 0)), none⟩]
def d6r23 : List GOp := [
  ⟨(some 21), .mv (.const (.slice none 0 0)), none⟩]
def d6r24 : List GOp := [
  ⟨(some 22), .mv (.const (.int .i64 0)), none⟩]
def d6r25 : List GOp := [
  ⟨(some 91), .mv (.tmp 22), none⟩,
  ⟨(some 92), .mv (.tmp 2), none⟩,
  ⟨(some 93), .len false (.tmp 92), none⟩,
  ⟨(some 94), .bin .lss (.tmp 91) (.tmp 93), none⟩]
def d6r26 : List GOp := [
  ⟨(some 97), .mv (.tmp 2), none⟩,
  ⟨(some 98), .mv (.tmp 22), none⟩,
  ⟨(some 99), .idxA 1 (.tmp 97) (.tmp 98), none⟩,
  ⟨(some 100), .load 1 false (.tmp 99), none⟩,
  ⟨(some 101), .mv (.tmp 17), none⟩,
  ⟨(some 102), .bin .neq (.tmp 100) (.tmp 101), none⟩]
def d6r27 : List GOp := [
  ⟨(some 103), .mv (.tmp 20), none⟩,
  ⟨(some 104), .mv (.tmp 2), none⟩,
  ⟨(some 105), .mv (.tmp 22), none⟩,
  ⟨(some 106), .idxA 1 (.tmp 104) (.tmp 105), none⟩,
  ⟨(some 107), .load 1 false (.tmp 106), none⟩,
  ⟨(some 108), .bslice 3 1 1 (.int .i64 0) [(0, (.tmp 107))], none⟩,
  ⟨(some 109), .app 3 1 8 (.int .i64 0) (.tmp 103) (.tmp 108), none⟩,
  ⟨(some 20), .mv (.tmp 109), none⟩]
def d6r28 : List GOp := [
  ⟨(some 110), .mv (.tmp 2), none⟩,
  ⟨(some 111), .mv (.tmp 22), none⟩,
  ⟨(some 112), .idxA 1 (.tmp 110) (.tmp 111), none⟩,
  ⟨(some 113), .load 1 false (.tmp 112), none⟩,
  ⟨(some 114), .mv (.tmp 18), none⟩,
  ⟨(some 115), .bin .neq (.tmp 113) (.tmp 114), none⟩]
def d6r29 : List GOp := [
  ⟨(some 116), .mv (.tmp 21), none⟩,
  ⟨(some 117), .mv (.tmp 2), none⟩,
  ⟨(some 118), .mv (.tmp 22), none⟩,
  ⟨(some 119), .idxA 1 (.tmp 117) (.tmp 118), none⟩,
  ⟨(some 120), .load 1 false (.tmp 119), none⟩,
  ⟨(some 121), .bslice 3 1 1 (.int .i64 0) [(0, (.tmp 120))], none⟩,
  ⟨(some 122), .app 3 1 8 (.int .i64 0) (.tmp 116) (.tmp 121), none⟩,
  ⟨(some 21), .mv (.tmp 122), none⟩]
def d6r30 : List GOp := [
  ⟨(some 95), .mv (.tmp 22), none⟩,
  ⟨(some 96), .bin .add (.tmp 95) (.const (.int .i64 1)), none⟩,
  ⟨(some 22), .mv (.tmp 96), none⟩]
def d6l31 : DC := .seq (.seq (.reg d6r25) (.cond (.tmp 94) (.skip) (.exit 4))) (.seq (.block 5 (.seq (.seq (.reg d6r26) (.cond (.tmp 102) (.reg d6r27) (.skip))) (.seq (.reg d6r28) (.cond (.tmp 115) (.reg d6r29) (.skip))))) (.reg d6r30))
def d6r32 : List GOp := [
  ⟨(some 123), .mv (.tmp 0), none⟩,
  ⟨(some 124), .mv (.tmp 20), none⟩,
  ⟨(some 125), .call 17 [(.tmp 123), (.tmp 124)], none⟩,
  ⟨(some 126), .un .not (.tmp 125), none⟩,
  ⟨(some 127), .mv (.tmp 126), none⟩,
  ⟨(some 128), .mv (.tmp 0), (some (127, false))⟩,
  ⟨(some 129), .mv (.tmp 21), (some (127, false))⟩,
  ⟨(some 130), .call 17 [(.tmp 128), (.tmp 129)], (some (127, false))⟩,
  ⟨(some 131), .un .not (.tmp 130), (some (127, false))⟩,
  ⟨(some 132), .pick (.tmp 127) (.const (.bool true)) (.tmp 131), none⟩]
def d6r33 : List GOp := [
  ⟨(some 12), .mv (.const (.bool false)), none⟩]
def d6r34 : List GOp := [
  ⟨(some 133), .mv (.tmp 0), none⟩,
  ⟨(some 134), .mv (.tmp 1), none⟩,
  ⟨(some 135), .call 15 [(.tmp 133), (.tmp 134)], none⟩,
  ⟨(some 23), .mv (.tmp 135), none⟩]
def d6r35 : List GOp := [
  ⟨(some 136), .mv (.tmp 23), none⟩,
  ⟨(some 137), .len false (.tmp 136), none⟩,
  ⟨(some 138), .bin .eql (.tmp 137) (.const (.int .i64 0)), none⟩]
def d6r36 : List GOp := [
  ⟨(some 139), .mv (.tmp 13), none⟩,
  ⟨(some 12), .mv (.tmp 139), none⟩]
def d6r37 : List GOp := [
  ⟨(some 140), .mv (.tmp 23), none⟩,
  ⟨(some 141), .mv (.tmp 3), none⟩,
  ⟨(some 142), .cvi .i64 (.tmp 141), none⟩,
  ⟨(some 143), .mv (.tmp 23), none⟩,
  ⟨(some 144), .len false (.tmp 143), none⟩,
  ⟨(some 145), .div .rem (.tmp 142) (.tmp 144), none⟩,
  ⟨(some 146), .idxA 1 (.tmp 140) (.tmp 145), none⟩,
  ⟨(some 147), .load 1 false (.tmp 146), none⟩,
  ⟨(some 24), .mv (.tmp 147), none⟩]
def d6r38 : List GOp := [
  ⟨(some 148), .mv (.tmp 24), none⟩,
  ⟨(some 149), .len false (.tmp 148), none⟩,
  ⟨(some 150), .bin .eql (.tmp 149) (.const (.int .i64 0)), none⟩]
def d6r39 : List GOp := [
  ⟨(some 12), .mv (.const (.bool false)), none⟩]
def d6r40 : List GOp := [
  ⟨(some 151), .mv (.tmp 4), none⟩,
  ⟨(some 152), .cvi .i64 (.tmp 151), none⟩,
  ⟨(some 153), .mv (.tmp 24), none⟩,
  ⟨(some 154), .len false (.tmp 153), none⟩,
  ⟨(some 155), .div .rem (.tmp 152) (.tmp 154), none⟩,
  ⟨(some 25), .mv (.tmp 155), none⟩]
def d6r41 : List GOp := [
  ⟨(some 156), .mv (.tmp 25), none⟩,
  ⟨(some 157), .mv (.tmp 5), none⟩,
  ⟨(some 158), .cvi .i64 (.tmp 157), none⟩,
  ⟨(some 159), .mv (.tmp 24), none⟩,
  ⟨(some 160), .len false (.tmp 159), none⟩,
  ⟨(some 161), .mv (.tmp 25), none⟩,
  ⟨(some 162), .bin .sub (.tmp 160) (.tmp 161), none⟩,
  ⟨(some 163), .div .rem (.tmp 158) (.tmp 162), none⟩,
  ⟨(some 164), .bin .add (.tmp 156) (.tmp 163), none⟩,
  ⟨(some 26), .mv (.tmp 164), none⟩]
def d6r42 : List GOp := [
  ⟨(some 165), .mv (.tmp 13), none⟩,
  ⟨(some 166), .mv (.tmp 165), none⟩,
  ⟨(some 167), .mv (.tmp 0), (some (166, true))⟩,
  ⟨(some 168), .mv (.tmp 24), (some (166, true))⟩,
  ⟨(some 169), .mv (.tmp 25), (some (166, true))⟩,
  ⟨(some 170), .mv (.tmp 26), (some (166, true))⟩,
  ⟨(some 171), .bin .add (.tmp 170) (.const (.int .i64 1)), (some (166, true))⟩,
  ⟨(some 172), .slc 1 (.tmp 168) (some (.tmp 169)) (some (.tmp 171)), (some (166, true))⟩,
  ⟨(some 173), .call 17 [(.tmp 167), (.tmp 172)], (some (166, true))⟩,
  ⟨(some 174), .pick (.tmp 166) (.tmp 173) (.const (.bool false)), none⟩,
  ⟨(some 12), .mv (.tmp 174), none⟩]
def d6c : DC := .seq (.reg d6r0) (.seq (.reg d6r1) (.seq (.seq (.reg d6r2) (.cond (.tmp 37) (.seq (.reg d6r3) (.ret)) (.skip))) (.seq (.reg d6r4) (.seq (.seq (.reg d6r5) (.block 0 (.loop d6l9))) (.seq (.reg d6r10) (.seq (.seq (.reg d6r11) (.cond (.tmp 60) (.seq (.reg d6r12) (.ret)) (.skip))) (.seq (.seq (.reg d6r13) (.cond (.tmp 66) (.seq (.reg d6r14) (.seq (.reg d6r15) (.seq (.seq (.reg d6r16) (.block 2 (.loop d6l21))) (.seq (.reg d6r22) (.seq (.reg d6r23) (.seq (.seq (.reg d6r24) (.block 4 (.loop d6l31))) (.seq (.reg d6r32) (.cond (.tmp 132) (.seq (.reg d6r33) (.ret)) (.skip))))))))) (.skip))) (.seq (.reg d6r34) (.seq (.seq (.reg d6r35) (.cond (.tmp 138) (.seq (.reg d6r36) (.ret)) (.skip))) (.seq (.reg d6r37) (.seq (.seq (.reg d6r38) (.cond (.tmp 150) (.seq (.reg d6r39) (.ret)) (.skip))) (.seq (.reg d6r40) (.seq (.reg d6r41) (.seq (.reg d6r42) (.ret)))))))))))))))
def d6 : DFn := ⟨175, d6c, [.tmp 12]⟩
theorem d6_ok : compF Try.prog 6 = some d6 := by kernel_rfl
/- foyer/foyerlaw11.RunsLeft -/
def d7r0 : List GOp := [
  ⟨(some 6), .mv (.const (.bool false)), none⟩]
def d7r1 : List GOp := [
  ⟨(some 14), .call 10 [], none⟩,
  ⟨(some 7), .mv (.tmp 14), none⟩]
def d7r2 : List GOp := [
  ⟨(some 15), .mv (.tmp 0), none⟩,
  ⟨(some 16), .mv (.tmp 1), none⟩,
  ⟨(some 17), .mv (.tmp 2), none⟩,
  ⟨(some 18), .call 11 [(.tmp 15), (.tmp 16), (.tmp 17)], none⟩,
  ⟨(some 19), .un .not (.tmp 18), none⟩,
  ⟨(some 20), .mv (.tmp 19), none⟩,
  ⟨(some 21), .mv (.tmp 0), (some (20, false))⟩,
  ⟨(some 22), .call 22 [(.tmp 21)], (some (20, false))⟩,
  ⟨(some 23), .un .not (.tmp 22), (some (20, false))⟩,
  ⟨(some 24), .pick (.tmp 20) (.const (.bool true)) (.tmp 23), none⟩]
def d7r3 : List GOp := [
  ⟨(some 25), .mv (.tmp 7), none⟩,
  ⟨(some 6), .mv (.tmp 25), none⟩]
def d7r4 : List GOp := [
  ⟨(some 26), .mv (.tmp 0), none⟩,
  ⟨(some 27), .mv (.tmp 1), none⟩,
  ⟨(some 28), .mv (.tmp 2), none⟩,
  ⟨(some 29), .call 20 [(.tmp 26), (.tmp 27), (.tmp 28)], none⟩,
  ⟨(some 8), .mv (.tmp 29), none⟩]
def d7r5 : List GOp := [
  ⟨(some 30), .mv (.tmp 0), none⟩,
  ⟨(some 31), .mv (.tmp 1), none⟩,
  ⟨(some 32), .mv (.tmp 2), none⟩,
  ⟨(some 33), .call 26 [(.tmp 30), (.tmp 31), (.tmp 32)], none⟩,
  ⟨(some 9), .mv (.tmp 33), none⟩]
def d7r6 : List GOp := [
  ⟨(some 10), .mv (.const (.int .i64 0)), none⟩]
def d7r7 : List GOp := [
  ⟨(some 34), .mv (.tmp 10), none⟩,
  ⟨(some 35), .mv (.tmp 8), none⟩,
  ⟨(some 36), .len false (.tmp 35), none⟩,
  ⟨(some 37), .bin .lss (.tmp 34) (.tmp 36), none⟩]
def d7r8 : List GOp := [
  ⟨(some 40), .mv (.tmp 8), none⟩,
  ⟨(some 41), .mv (.tmp 10), none⟩,
  ⟨(some 42), .idxA 1 (.tmp 40) (.tmp 41), none⟩,
  ⟨(some 43), .load 1 false (.tmp 42), none⟩,
  ⟨(some 11), .mv (.tmp 43), none⟩]
def d7r9 : List GOp := [
  ⟨(some 44), .mv (.tmp 11), none⟩,
  ⟨(some 45), .bin .lss (.tmp 44) (.const (.int .i64 0)), none⟩,
  ⟨(some 46), .mv (.tmp 45), none⟩,
  ⟨(some 47), .mv (.tmp 11), (some (46, false))⟩,
  ⟨(some 48), .mv (.tmp 0), (some (46, false))⟩,
  ⟨(some 49), .len false (.tmp 48), (some (46, false))⟩,
  ⟨(some 50), .bin .geq (.tmp 47) (.tmp 49), (some (46, false))⟩,
  ⟨(some 51), .pick (.tmp 46) (.const (.bool true)) (.tmp 50), none⟩,
  ⟨(some 52), .mv (.tmp 51), none⟩,
  ⟨(some 53), .mv (.tmp 9), (some (52, false))⟩,
  ⟨(some 54), .mv (.tmp 11), (some (52, false))⟩,
  ⟨(some 55), .idxA 1 (.tmp 53) (.tmp 54), (some (52, false))⟩,
  ⟨(some 56), .load 1 false (.tmp 55), (some (52, false))⟩,
  ⟨(some 57), .pick (.tmp 52) (.const (.bool true)) (.tmp 56), none⟩,
  ⟨(some 58), .mv (.tmp 57), none⟩,
  ⟨(some 59), .mv (.tmp 10), (some (58, false))⟩,
  ⟨(some 60), .bin .gtr (.tmp 59) (.const (.int .i64 0)), (some (58, false))⟩,
  ⟨(some 61), .mv (.tmp 60), (some (58, false))⟩,
  ⟨(some 62), .mv (.tmp 8), (some (61, true))⟩,
  ⟨(some 63), .mv (.tmp 10), (some (61, true))⟩,
  ⟨(some 64), .bin .sub (.tmp 63) (.const (.int .i64 1)), (some (61, true))⟩,
  ⟨(some 65), .mm true (.tmp 64) [(.const (.int .i64 0))], (some (61, true))⟩,
  ⟨(some 66), .idxA 1 (.tmp 62) (.tmp 65), (some (61, true))⟩,
  ⟨(some 67), .load 1 false (.tmp 66), (some (61, true))⟩,
  ⟨(some 68), .mv (.tmp 11), (some (61, true))⟩,
  ⟨(some 69), .bin .geq (.tmp 67) (.tmp 68), (some (61, true))⟩,
  ⟨(some 70), .pick (.tmp 61) (.tmp 69) (.const (.bool false)), (some (58, false))⟩,
  ⟨(some 71), .pick (.tmp 58) (.const (.bool true)) (.tmp 70), none⟩]
def d7r10 : List GOp := [
  ⟨(some 6), .mv (.const (.bool false)), none⟩]
def d7r11 : List GOp := [
  ⟨(some 12), .mv (.const (.bool false)), none⟩]
def d7r12 : List GOp := [
  ⟨(some 13), .mv (.const (.int .i64 0)), none⟩]
def d7r13 : List GOp := [
  ⟨(some 72), .mv (.tmp 13), none⟩,
  ⟨(some 73), .mv (.tmp 0), none⟩,
  ⟨(some 74), .len false (.tmp 73), none⟩,
  ⟨(some 75), .bin .lss (.tmp 72) (.tmp 74), none⟩]
def d7r14 : List GOp := [
  ⟨(some 78), .mv (.tmp 0), none⟩,
  ⟨(some 79), .mv (.tmp 11), none⟩,
  ⟨(some 80), .idxA 9 (.tmp 78) (.tmp 79), none⟩,
  ⟨(some 81), .load 9 true (.tmp 80), none⟩,
  ⟨(some 82), .mv (.tmp 0), none⟩,
  ⟨(some 83), .mv (.tmp 13), none⟩,
  ⟨(some 84), .idxA 9 (.tmp 82) (.tmp 83), none⟩,
  ⟨(some 85), .load 9 true (.tmp 84), none⟩,
  ⟨(some 86), .call 23 [(.tmp 81), (.tmp 85)], none⟩,
  ⟨(some 87), .un .not (.tmp 86), none⟩,
  ⟨(some 88), .mv (.tmp 87), none⟩,
  ⟨(some 89), .mv (.tmp 0), (some (88, true))⟩,
  ⟨(some 90), .mv (.tmp 13), (some (88, true))⟩,
  ⟨(some 91), .idxA 9 (.tmp 89) (.tmp 90), (some (88, true))⟩,
  ⟨(some 92), .load 9 true (.tmp 91), (some (88, true))⟩,
  ⟨(some 93), .mv (.tmp 0), (some (88, true))⟩,
  ⟨(some 94), .mv (.tmp 11), (some (88, true))⟩,
  ⟨(some 95), .idxA 9 (.tmp 93) (.tmp 94), (some (88, true))⟩,
  ⟨(some 96), .load 9 true (.tmp 95), (some (88, true))⟩,
  ⟨(some 97), .call 23 [(.tmp 92), (.tmp 96)], (some (88, true))⟩,
  ⟨(some 98), .un .not (.tmp 97), (some (88, true))⟩,
  ⟨(some 99), .pick (.tmp 88) (.tmp 98) (.const (.bool false)), none⟩,
  ⟨(some 100), .mv (.tmp 99), none⟩,
  ⟨(some 101), .mv (.tmp 0), (some (100, false))⟩,
  ⟨(some 102), .mv (.tmp 13), (some (100, false))⟩,
  ⟨(some 103), .idxA 9 (.tmp 101) (.tmp 102), (some (100, false))⟩,
  ⟨(some 104), .load 9 true (.tmp 103), (some (100, false))⟩,
  ⟨(some 105), .call 24 [(.tmp 104)], (some (100, false))⟩,
  ⟨(some 106), .un .not (.tmp 105), (some (100, false))⟩,
  ⟨(some 107), .pick (.tmp 100) (.const (.bool true)) (.tmp 106), none⟩]
def d7r15 : List GOp := [
  ⟨(some 108), .mv (.tmp 9), none⟩,
  ⟨(some 109), .mv (.tmp 13), none⟩,
  ⟨(some 110), .idxA 1 (.tmp 108) (.tmp 109), none⟩,
  ⟨(some 111), .load 1 false (.tmp 110), none⟩,
  ⟨(some 112), .un .not (.tmp 111), none⟩]
def d7r16 : List GOp := [
  ⟨(some 6), .mv (.const (.bool false)), none⟩]
def d7r17 : List GOp := [
  ⟨(some 113), .mv (.tmp 12), none⟩,
  ⟨(some 114), .mv (.tmp 113), none⟩,
  ⟨(some 115), .mv (.tmp 1), (some (114, false))⟩,
  ⟨(some 116), .mv (.tmp 13), (some (114, false))⟩,
  ⟨(some 117), .call 25 [(.tmp 115), (.tmp 116)], (some (114, false))⟩,
  ⟨(some 118), .un .not (.tmp 117), (some (114, false))⟩,
  ⟨(some 119), .pick (.tmp 114) (.const (.bool true)) (.tmp 118), none⟩,
  ⟨(some 12), .mv (.tmp 119), none⟩]
def d7r18 : List GOp := [
  ⟨(some 76), .mv (.tmp 13), none⟩,
  ⟨(some 77), .bin .add (.tmp 76) (.const (.int .i64 1)), none⟩,
  ⟨(some 13), .mv (.tmp 77), none⟩]
def d7l19 : DC := .seq (.seq (.reg d7r13) (.cond (.tmp 75) (.skip) (.exit 2))) (.seq (.block 3 (.seq (.seq (.par d7r14) (.cond (.tmp 107) (.exit 3) (.skip))) (.seq (.seq (.reg d7r15) (.cond (.tmp 112) (.seq (.reg d7r16) (.ret)) (.skip))) (.reg d7r17)))) (.reg d7r18))
def d7r20 : List GOp := [
  ⟨(some 120), .mv (.tmp 12), none⟩,
  ⟨(some 121), .un .not (.tmp 120), none⟩]
def d7r21 : List GOp := [
  ⟨(some 6), .mv (.const (.bool false)), none⟩]
def d7r22 : List GOp := [
  ⟨(some 38), .mv (.tmp 10), none⟩,
  ⟨(some 39), .bin .add (.tmp 38) (.const (.int .i64 1)), none⟩,
  ⟨(some 10), .mv (.tmp 39), none⟩]
def d7l23 : DC := .seq (.seq (.reg d7r7) (.cond (.tmp 37) (.skip) (.exit 0))) (.seq (.block 1 (.seq (.reg d7r8) (.seq (.seq (.reg d7r9) (.cond (.tmp 71) (.seq (.reg d7r10) (.ret)) (.skip))) (.seq (.reg d7r11) (.seq (.seq (.reg d7r12) (.block 2 (.loop d7l19))) (.seq (.reg d7r20) (.cond (.tmp 121) (.seq (.reg d7r21) (.ret)) (.skip)))))))) (.reg d7r22))
def d7r24 : List GOp := [
  ⟨(some 122), .mv (.tmp 7), none⟩,
  ⟨(some 6), .mv (.tmp 122), none⟩]
def d7c : DC := .seq (.reg d7r0) (.seq (.reg d7r1) (.seq (.seq (.reg d7r2) (.cond (.tmp 24) (.seq (.reg d7r3) (.ret)) (.skip))) (.seq (.reg d7r4) (.seq (.reg d7r5) (.seq (.seq (.reg d7r6) (.block 0 (.loop d7l23))) (.seq (.reg d7r24) (.ret)))))))
def d7 : DFn := ⟨123, d7c, [.tmp 6]⟩
theorem d7_ok : compF Try.prog 7 = some d7 := by kernel_rfl
/- foyer/foyerlaw11.RunsWhole -/
def d8r0 : List GOp := [
  ⟨(some 10), .mv (.const (.bool false)), none⟩]
def d8r1 : List GOp := [
  ⟨(some 24), .call 10 [], none⟩,
  ⟨(some 11), .mv (.tmp 24), none⟩]
def d8r2 : List GOp := [
  ⟨(some 25), .mv (.tmp 0), none⟩,
  ⟨(some 26), .mv (.tmp 1), none⟩,
  ⟨(some 27), .mv (.tmp 2), none⟩,
  ⟨(some 28), .call 11 [(.tmp 25), (.tmp 26), (.tmp 27)], none⟩,
  ⟨(some 29), .un .not (.tmp 28), none⟩,
  ⟨(some 30), .mv (.tmp 29), none⟩,
  ⟨(some 31), .mv (.tmp 3), (some (30, false))⟩,
  ⟨(some 32), .len false (.tmp 31), (some (30, false))⟩,
  ⟨(some 33), .bin .gtr (.tmp 32) (.const (.int .i64 60)), (some (30, false))⟩,
  ⟨(some 34), .pick (.tmp 30) (.const (.bool true)) (.tmp 33), none⟩,
  ⟨(some 35), .mv (.tmp 34), none⟩,
  ⟨(some 36), .mv (.tmp 0), (some (35, false))⟩,
  ⟨(some 37), .call 22 [(.tmp 36)], (some (35, false))⟩,
  ⟨(some 38), .un .not (.tmp 37), (some (35, false))⟩,
  ⟨(some 39), .pick (.tmp 35) (.const (.bool true)) (.tmp 38), none⟩]
def d8r3 : List GOp := [
  ⟨(some 40), .mv (.tmp 11), none⟩,
  ⟨(some 10), .mv (.tmp 40), none⟩]
def d8r4 : List GOp := [
  ⟨(some 41), .mv (.tmp 0), none⟩,
  ⟨(some 42), .mv (.tmp 1), none⟩,
  ⟨(some 43), .call 20 [(.tmp 41), (.tmp 42), (.const (.slice none 0 0))], none⟩,
  ⟨(some 44), .len false (.tmp 43), none⟩,
  ⟨(some 45), .bin .gtr (.tmp 44) (.const (.int .i64 0)), none⟩]
def d8r5 : List GOp := [
  ⟨(some 10), .mv (.const (.bool false)), none⟩]
def d8r6 : List GOp := [
  ⟨(some 46), .mv (.tmp 0), none⟩,
  ⟨(some 47), .mv (.tmp 1), none⟩,
  ⟨(some 48), .call 15 [(.tmp 46), (.tmp 47)], none⟩,
  ⟨(some 12), .mv (.tmp 48), none⟩]
def d8r7 : List GOp := [
  ⟨(some 49), .mv (.tmp 12), none⟩,
  ⟨(some 50), .len false (.tmp 49), none⟩,
  ⟨(some 51), .bin .gtr (.tmp 50) (.const (.int .i64 0)), none⟩,
  ⟨(some 52), .mv (.tmp 51), none⟩,
  ⟨(some 53), .mv (.tmp 0), (some (52, true))⟩,
  ⟨(some 54), .mv (.tmp 1), (some (52, true))⟩,
  ⟨(some 55), .mv (.tmp 12), (some (52, true))⟩,
  ⟨(some 56), .mv (.tmp 4), (some (52, true))⟩,
  ⟨(some 57), .cvi .i64 (.tmp 56), (some (52, true))⟩,
  ⟨(some 58), .mv (.tmp 12), (some (52, true))⟩,
  ⟨(some 59), .len false (.tmp 58), (some (52, true))⟩,
  ⟨(some 60), .div .rem (.tmp 57) (.tmp 59), (some (52, true))⟩,
  ⟨(some 61), .idxA 1 (.tmp 55) (.tmp 60), (some (52, true))⟩,
  ⟨(some 62), .load 1 false (.tmp 61), (some (52, true))⟩,
  ⟨(some 63), .call 20 [(.tmp 53), (.tmp 54), (.tmp 62)], (some (52, true))⟩,
  ⟨(some 64), .len false (.tmp 63), (some (52, true))⟩,
  ⟨(some 65), .bin .gtr (.tmp 64) (.const (.int .i64 0)), (some (52, true))⟩,
  ⟨(some 66), .pick (.tmp 52) (.tmp 65) (.const (.bool false)), none⟩]
def d8r8 : List GOp := [
  ⟨(some 10), .mv (.const (.bool false)), none⟩]
def d8r9 : List GOp := [
  ⟨(some 67), .bslice 3 1 0 (.int .i64 0) [], none⟩,
  ⟨(some 68), .mv (.tmp 2), none⟩,
  ⟨(some 69), .app 3 1 8 (.int .i64 0) (.tmp 67) (.tmp 68), none⟩,
  ⟨(some 70), .mv (.tmp 3), none⟩,
  ⟨(some 71), .app 3 1 8 (.int .i64 0) (.tmp 69) (.tmp 70), none⟩,
  ⟨(some 13), .mv (.tmp 71), none⟩]
def d8r10 : List GOp := [
  ⟨(some 72), .mv (.tmp 0), none⟩,
  ⟨(some 73), .mv (.tmp 1), none⟩,
  ⟨(some 74), .mv (.tmp 2), none⟩,
  ⟨(some 75), .call 26 [(.tmp 72), (.tmp 73), (.tmp 74)], none⟩,
  ⟨(some 14), .mv (.tmp 75), none⟩]
def d8r11 : List GOp := [
  ⟨(some 76), .mv (.tmp 0), none⟩,
  ⟨(some 77), .mv (.tmp 14), none⟩,
  ⟨(some 78), .mv (.tmp 3), none⟩,
  ⟨(some 79), .call 20 [(.tmp 76), (.tmp 77), (.tmp 78)], none⟩,
  ⟨(some 15), .mv (.tmp 79), none⟩]
def d8r12 : List GOp := [
  ⟨(some 80), .mv (.tmp 0), none⟩,
  ⟨(some 81), .mv (.tmp 1), none⟩,
  ⟨(some 82), .mv (.tmp 13), none⟩,
  ⟨(some 83), .call 20 [(.tmp 80), (.tmp 81), (.tmp 82)], none⟩,
  ⟨(some 16), .mv (.tmp 83), none⟩]
def d8r13 : List GOp := [
  ⟨(some 17), .mv (.const (.int .i64 0)), none⟩]
def d8r14 : List GOp := [
  ⟨(some 84), .mv (.tmp 17), none⟩,
  ⟨(some 85), .mv (.tmp 15), none⟩,
  ⟨(some 86), .len false (.tmp 85), none⟩,
  ⟨(some 87), .bin .lss (.tmp 84) (.tmp 86), none⟩]
def d8r15 : List GOp := [
  ⟨(some 18), .mv (.const (.bool false)), none⟩]
def d8r16 : List GOp := [
  ⟨(some 19), .mv (.const (.int .i64 0)), none⟩]
def d8r17 : List GOp := [
  ⟨(some 90), .mv (.tmp 19), none⟩,
  ⟨(some 91), .mv (.tmp 12), none⟩,
  ⟨(some 92), .len false (.tmp 91), none⟩,
  ⟨(some 93), .bin .lss (.tmp 90) (.tmp 92), none⟩]
def d8r18 : List GOp := [
  ⟨(some 96), .mv (.tmp 18), none⟩,
  ⟨(some 97), .mv (.tmp 96), none⟩,
  ⟨(some 98), .mv (.tmp 12), (some (97, false))⟩,
  ⟨(some 99), .mv (.tmp 19), (some (97, false))⟩,
  ⟨(some 100), .idxA 1 (.tmp 98) (.tmp 99), (some (97, false))⟩,
  ⟨(some 101), .load 1 false (.tmp 100), (some (97, false))⟩,
  ⟨(some 102), .len false (.tmp 101), (some (97, false))⟩,
  ⟨(some 103), .bin .eql (.tmp 102) (.const (.int .i64 1)), (some (97, false))⟩,
  ⟨(some 104), .mv (.tmp 103), (some (97, false))⟩,
  ⟨(some 105), .mv (.tmp 12), (some (104, true))⟩,
  ⟨(some 106), .mv (.tmp 19), (some (104, true))⟩,
  ⟨(some 107), .idxA 1 (.tmp 105) (.tmp 106), (some (104, true))⟩,
  ⟨(some 108), .load 1 false (.tmp 107), (some (104, true))⟩,
  ⟨(some 109), .idxA 1 (.tmp 108) (.const (.int .i64 0)), (some (104, true))⟩,
  ⟨(some 110), .load 1 false (.tmp 109), (some (104, true))⟩,
  ⟨(some 111), .mv (.tmp 15), (some (104, true))⟩,
  ⟨(some 112), .mv (.tmp 17), (some (104, true))⟩,
  ⟨(some 113), .idxA 1 (.tmp 111) (.tmp 112), (some (104, true))⟩,
  ⟨(some 114), .load 1 false (.tmp 113), (some (104, true))⟩,
  ⟨(some 115), .bin .eql (.tmp 110) (.tmp 114), (some (104, true))⟩,
  ⟨(some 116), .pick (.tmp 104) (.tmp 115) (.const (.bool false)), (some (97, false))⟩,
  ⟨(some 117), .pick (.tmp 97) (.const (.bool true)) (.tmp 116), none⟩,
  ⟨(some 18), .mv (.tmp 117), none⟩]
def d8r19 : List GOp := [
  ⟨(some 94), .mv (.tmp 19), none⟩,
  ⟨(some 95), .bin .add (.tmp 94) (.const (.int .i64 1)), none⟩,
  ⟨(some 19), .mv (.tmp 95), none⟩]
def d8l20 : DC := .seq (.seq (.reg d8r17) (.cond (.tmp 93) (.skip) (.exit 2))) (.seq (.block 3 (.par d8r18)) (.reg d8r19))
def d8r21 : List GOp := [
  ⟨(some 118), .mv (.tmp 18), none⟩,
  ⟨(some 119), .un .not (.tmp 118), none⟩,
  ⟨(some 120), .mv (.tmp 119), none⟩,
  ⟨(some 121), .mv (.tmp 16), (some (120, true))⟩,
  ⟨(some 122), .mv (.tmp 15), (some (120, true))⟩,
  ⟨(some 123), .mv (.tmp 17), (some (120, true))⟩,
  ⟨(some 124), .idxA 1 (.tmp 122) (.tmp 123), (some (120, true))⟩,
  ⟨(some 125), .load 1 false (.tmp 124), (some (120, true))⟩,
  ⟨(some 126), .call 27 [(.tmp 121), (.tmp 125)], (some (120, true))⟩,
  ⟨(some 127), .un .not (.tmp 126), (some (120, true))⟩,
  ⟨(some 128), .pick (.tmp 120) (.tmp 127) (.const (.bool false)), none⟩]
def d8r22 : List GOp := [
  ⟨(some 10), .mv (.const (.bool false)), none⟩]
def d8r23 : List GOp := [
  ⟨(some 88), .mv (.tmp 17), none⟩,
  ⟨(some 89), .bin .add (.tmp 88) (.const (.int .i64 1)), none⟩,
  ⟨(some 17), .mv (.tmp 89), none⟩]
def d8l24 : DC := .seq (.seq (.reg d8r14) (.cond (.tmp 87) (.skip) (.exit 0))) (.seq (.block 1 (.seq (.reg d8r15) (.seq (.seq (.reg d8r16) (.block 2 (.loop d8l20))) (.seq (.reg d8r21) (.cond (.tmp 128) (.seq (.reg d8r22) (.ret)) (.skip)))))) (.reg d8r23))
def d8r25 : List GOp := [
  ⟨(some 129), .mv (.tmp 0), none⟩,
  ⟨(some 130), .mv (.tmp 0), none⟩,
  ⟨(some 131), .mv (.tmp 1), none⟩,
  ⟨(some 132), .mv (.tmp 13), none⟩,
  ⟨(some 133), .call 26 [(.tmp 130), (.tmp 131), (.tmp 132)], none⟩,
  ⟨(some 134), .call 15 [(.tmp 129), (.tmp 133)], none⟩,
  ⟨(some 20), .mv (.tmp 134), none⟩]
def d8r26 : List GOp := [
  ⟨(some 21), .mv (.const (.int .i64 0)), none⟩]
def d8r27 : List GOp := [
  ⟨(some 135), .mv (.tmp 21), none⟩,
  ⟨(some 136), .mv (.tmp 16), none⟩,
  ⟨(some 137), .len false (.tmp 136), none⟩,
  ⟨(some 138), .bin .lss (.tmp 135) (.tmp 137), none⟩]
def d8r28 : List GOp := [
  ⟨(some 22), .mv (.const (.bool false)), none⟩]
def d8r29 : List GOp := [
  ⟨(some 23), .mv (.const (.int .i64 0)), none⟩]
def d8r30 : List GOp := [
  ⟨(some 141), .mv (.tmp 23), none⟩,
  ⟨(some 142), .mv (.tmp 20), none⟩,
  ⟨(some 143), .len false (.tmp 142), none⟩,
  ⟨(some 144), .bin .lss (.tmp 141) (.tmp 143), none⟩]
def d8r31 : List GOp := [
  ⟨(some 147), .mv (.tmp 22), none⟩,
  ⟨(some 148), .mv (.tmp 147), none⟩,
  ⟨(some 149), .mv (.tmp 20), (some (148, false))⟩,
  ⟨(some 150), .mv (.tmp 23), (some (148, false))⟩,
  ⟨(some 151), .idxA 1 (.tmp 149) (.tmp 150), (some (148, false))⟩,
  ⟨(some 152), .load 1 false (.tmp 151), (some (148, false))⟩,
  ⟨(some 153), .len false (.tmp 152), (some (148, false))⟩,
  ⟨(some 154), .bin .eql (.tmp 153) (.const (.int .i64 1)), (some (148, false))⟩,
  ⟨(some 155), .mv (.tmp 154), (some (148, false))⟩,
  ⟨(some 156), .mv (.tmp 20), (some (155, true))⟩,
  ⟨(some 157), .mv (.tmp 23), (some (155, true))⟩,
  ⟨(some 158), .idxA 1 (.tmp 156) (.tmp 157), (some (155, true))⟩,
  ⟨(some 159), .load 1 false (.tmp 158), (some (155, true))⟩,
  ⟨(some 160), .idxA 1 (.tmp 159) (.const (.int .i64 0)), (some (155, true))⟩,
  ⟨(some 161), .load 1 false (.tmp 160), (some (155, true))⟩,
  ⟨(some 162), .mv (.tmp 16), (some (155, true))⟩,
  ⟨(some 163), .mv (.tmp 21), (some (155, true))⟩,
  ⟨(some 164), .idxA 1 (.tmp 162) (.tmp 163), (some (155, true))⟩,
  ⟨(some 165), .load 1 false (.tmp 164), (some (155, true))⟩,
  ⟨(some 166), .bin .eql (.tmp 161) (.tmp 165), (some (155, true))⟩,
  ⟨(some 167), .pick (.tmp 155) (.tmp 166) (.const (.bool false)), (some (148, false))⟩,
  ⟨(some 168), .pick (.tmp 148) (.const (.bool true)) (.tmp 167), none⟩,
  ⟨(some 22), .mv (.tmp 168), none⟩]
def d8r32 : List GOp := [
  ⟨(some 145), .mv (.tmp 23), none⟩,
  ⟨(some 146), .bin .add (.tmp 145) (.const (.int .i64 1)), none⟩,
  ⟨(some 23), .mv (.tmp 146), none⟩]
def d8l33 : DC := .seq (.seq (.reg d8r30) (.cond (.tmp 144) (.skip) (.exit 6))) (.seq (.block 7 (.par d8r31)) (.reg d8r32))
def d8r34 : List GOp := [
  ⟨(some 169), .mv (.tmp 22), none⟩,
  ⟨(some 170), .un .not (.tmp 169), none⟩]
def d8r35 : List GOp := [
  ⟨(some 10), .mv (.const (.bool false)), none⟩]
def d8r36 : List GOp := [
  ⟨(some 139), .mv (.tmp 21), none⟩,
  ⟨(some 140), .bin .add (.tmp 139) (.const (.int .i64 1)), none⟩,
  ⟨(some 21), .mv (.tmp 140), none⟩]
def d8l37 : DC := .seq (.seq (.reg d8r27) (.cond (.tmp 138) (.skip) (.exit 4))) (.seq (.block 5 (.seq (.reg d8r28) (.seq (.seq (.reg d8r29) (.block 6 (.loop d8l33))) (.seq (.reg d8r34) (.cond (.tmp 170) (.seq (.reg d8r35) (.ret)) (.skip)))))) (.reg d8r36))
def d8r38 : List GOp := [
  ⟨(some 171), .mv (.tmp 11), none⟩,
  ⟨(some 10), .mv (.tmp 171), none⟩]
def d8c : DC := .seq (.reg d8r0) (.seq (.reg d8r1) (.seq (.seq (.reg d8r2) (.cond (.tmp 39) (.seq (.reg d8r3) (.ret)) (.skip))) (.seq (.seq (.reg d8r4) (.cond (.tmp 45) (.seq (.reg d8r5) (.ret)) (.skip))) (.seq (.reg d8r6) (.seq (.seq (.reg d8r7) (.cond (.tmp 66) (.seq (.reg d8r8) (.ret)) (.skip))) (.seq (.reg d8r9) (.seq (.reg d8r10) (.seq (.reg d8r11) (.seq (.reg d8r12) (.seq (.seq (.reg d8r13) (.block 0 (.loop d8l24))) (.seq (.reg d8r25) (.seq (.seq (.reg d8r26) (.block 4 (.loop d8l37))) (.seq (.reg d8r38) (.ret))))))))))))))
def d8 : DFn := ⟨172, d8c, [.tmp 10]⟩
theorem d8_ok : compF Try.prog 8 = some d8 := by kernel_rfl
/- foyer/foyerlaw11.RunsApart -/
def d9r0 : List GOp := [
  ⟨(some 8), .mv (.const (.bool false)), none⟩]
def d9r1 : List GOp := [
  ⟨(some 20), .call 10 [], none⟩,
  ⟨(some 9), .mv (.tmp 20), none⟩]
def d9r2 : List GOp := [
  ⟨(some 21), .mv (.tmp 0), none⟩,
  ⟨(some 22), .mv (.tmp 1), none⟩,
  ⟨(some 23), .mv (.tmp 2), none⟩,
  ⟨(some 24), .call 11 [(.tmp 21), (.tmp 22), (.tmp 23)], none⟩,
  ⟨(some 25), .un .not (.tmp 24), none⟩,
  ⟨(some 26), .mv (.tmp 25), none⟩,
  ⟨(some 27), .mv (.tmp 0), (some (26, false))⟩,
  ⟨(some 28), .call 22 [(.tmp 27)], (some (26, false))⟩,
  ⟨(some 29), .un .not (.tmp 28), (some (26, false))⟩,
  ⟨(some 30), .pick (.tmp 26) (.const (.bool true)) (.tmp 29), none⟩]
def d9r3 : List GOp := [
  ⟨(some 31), .mv (.tmp 9), none⟩,
  ⟨(some 8), .mv (.tmp 31), none⟩]
def d9r4 : List GOp := [
  ⟨(some 32), .mv (.tmp 0), none⟩,
  ⟨(some 33), .call 13 [(.tmp 32)], none⟩,
  ⟨(some 10), .mv (.tmp 33), none⟩]
def d9r5 : List GOp := [
  ⟨(some 34), .mv (.tmp 10), none⟩,
  ⟨(some 35), .len false (.tmp 34), none⟩,
  ⟨(some 36), .bin .eql (.tmp 35) (.const (.int .i64 0)), none⟩]
def d9r6 : List GOp := [
  ⟨(some 37), .mv (.tmp 9), none⟩,
  ⟨(some 8), .mv (.tmp 37), none⟩]
def d9r7 : List GOp := [
  ⟨(some 38), .mv (.tmp 10), none⟩,
  ⟨(some 39), .mv (.tmp 3), none⟩,
  ⟨(some 40), .cvi .i64 (.tmp 39), none⟩,
  ⟨(some 41), .mv (.tmp 10), none⟩,
  ⟨(some 42), .len false (.tmp 41), none⟩,
  ⟨(some 43), .div .rem (.tmp 40) (.tmp 42), none⟩,
  ⟨(some 44), .idxA 1 (.tmp 38) (.tmp 43), none⟩,
  ⟨(some 45), .load 1 false (.tmp 44), none⟩,
  ⟨(some 11), .mv (.tmp 45), none⟩]
def d9r8 : List GOp := [
  ⟨(some 46), .mv (.tmp 0), none⟩,
  ⟨(some 47), .len false (.tmp 46), none⟩,
  ⟨(some 48), .mks 4 1 1 (.bool false) (.tmp 47) (.tmp 47), none⟩,
  ⟨(some 12), .mv (.tmp 48), none⟩]
def d9r9 : List GOp := [
  ⟨(some 13), .mv (.const (.int .i64 0)), none⟩]
def d9r10 : List GOp := [
  ⟨(some 49), .mv (.tmp 13), none⟩,
  ⟨(some 50), .mv (.tmp 0), none⟩,
  ⟨(some 51), .len false (.tmp 50), none⟩,
  ⟨(some 52), .bin .lss (.tmp 49) (.tmp 51), none⟩]
def d9r11 : List GOp := [
  ⟨(some 55), .mv (.tmp 12), none⟩,
  ⟨(some 56), .mv (.tmp 13), none⟩,
  ⟨(some 57), .mv (.tmp 1), none⟩,
  ⟨(some 58), .mv (.tmp 13), none⟩,
  ⟨(some 59), .call 25 [(.tmp 57), (.tmp 58)], none⟩,
  ⟨(some 60), .mv (.tmp 59), none⟩,
  ⟨(some 61), .mv (.tmp 11), (some (60, false))⟩,
  ⟨(some 62), .mv (.tmp 13), (some (60, false))⟩,
  ⟨(some 63), .call 27 [(.tmp 61), (.tmp 62)], (some (60, false))⟩,
  ⟨(some 64), .un .not (.tmp 63), (some (60, false))⟩,
  ⟨(some 65), .pick (.tmp 60) (.const (.bool true)) (.tmp 64), none⟩,
  ⟨(some 66), .idxA 1 (.tmp 55) (.tmp 56), none⟩,
  ⟨none, .store 1 (.tmp 66) (.tmp 65), none⟩]
def d9r12 : List GOp := [
  ⟨(some 53), .mv (.tmp 13), none⟩,
  ⟨(some 54), .bin .add (.tmp 53) (.const (.int .i64 1)), none⟩,
  ⟨(some 13), .mv (.tmp 54), none⟩]
def d9l13 : DC := .seq (.seq (.reg d9r10) (.cond (.tmp 52) (.skip) (.exit 0))) (.seq (.block 1 (.reg d9r11)) (.reg d9r12))
def d9r14 : List GOp := [
  ⟨(some 67), .mv (.tmp 0), none⟩,
  ⟨(some 68), .mv (.tmp 1), none⟩,
  ⟨(some 69), .call 15 [(.tmp 67), (.tmp 68)], none⟩,
  ⟨(some 14), .mv (.tmp 69), none⟩]
def d9r15 : List GOp := [
  ⟨(some 15), .mv (.const (.slice none 0 0)), none⟩]
def d9r16 : List GOp := [
  ⟨(some 16), .mv (.const (.int .i64 0)), none⟩]
def d9r17 : List GOp := [
  ⟨(some 70), .mv (.tmp 16), none⟩,
  ⟨(some 71), .mv (.tmp 14), none⟩,
  ⟨(some 72), .len false (.tmp 71), none⟩,
  ⟨(some 73), .bin .lss (.tmp 70) (.tmp 72), none⟩]
def d9r18 : List GOp := [
  ⟨(some 76), .mv (.tmp 14), none⟩,
  ⟨(some 77), .mv (.tmp 16), none⟩,
  ⟨(some 78), .idxA 1 (.tmp 76) (.tmp 77), none⟩,
  ⟨(some 79), .load 1 false (.tmp 78), none⟩,
  ⟨(some 80), .len false (.tmp 79), none⟩,
  ⟨(some 81), .bin .gtr (.tmp 80) (.const (.int .i64 0)), none⟩,
  ⟨(some 82), .mv (.tmp 81), none⟩,
  ⟨(some 83), .mv (.tmp 11), (some (82, true))⟩,
  ⟨(some 84), .mv (.tmp 14), (some (82, true))⟩,
  ⟨(some 85), .mv (.tmp 16), (some (82, true))⟩,
  ⟨(some 86), .idxA 1 (.tmp 84) (.tmp 85), (some (82, true))⟩,
  ⟨(some 87), .load 1 false (.tmp 86), (some (82, true))⟩,
  ⟨(some 88), .idxA 1 (.tmp 87) (.const (.int .i64 0)), (some (82, true))⟩,
  ⟨(some 89), .load 1 false (.tmp 88), (some (82, true))⟩,
  ⟨(some 90), .call 27 [(.tmp 83), (.tmp 89)], (some (82, true))⟩,
  ⟨(some 91), .pick (.tmp 82) (.tmp 90) (.const (.bool false)), none⟩]
def d9r19 : List GOp := [
  ⟨(some 92), .mv (.tmp 15), none⟩,
  ⟨(some 93), .mv (.tmp 14), none⟩,
  ⟨(some 94), .mv (.tmp 16), none⟩,
  ⟨(some 95), .idxA 1 (.tmp 93) (.tmp 94), none⟩,
  ⟨(some 96), .load 1 false (.tmp 95), none⟩,
  ⟨(some 97), .bslice 24 1 1 (.slice none 0 0) [(0, (.tmp 96))], none⟩,
  ⟨(some 98), .app 24 1 24 (.slice none 0 0) (.tmp 92) (.tmp 97), none⟩,
  ⟨(some 15), .mv (.tmp 98), none⟩]
def d9r20 : List GOp := [
  ⟨(some 74), .mv (.tmp 16), none⟩,
  ⟨(some 75), .bin .add (.tmp 74) (.const (.int .i64 1)), none⟩,
  ⟨(some 16), .mv (.tmp 75), none⟩]
def d9l21 : DC := .seq (.seq (.reg d9r17) (.cond (.tmp 73) (.skip) (.exit 2))) (.seq (.block 3 (.seq (.reg d9r18) (.cond (.tmp 91) (.reg d9r19) (.skip)))) (.reg d9r20))
def d9r22 : List GOp := [
  ⟨(some 99), .mv (.tmp 0), none⟩,
  ⟨(some 100), .mv (.tmp 1), none⟩,
  ⟨(some 101), .mv (.tmp 2), none⟩,
  ⟨(some 102), .call 20 [(.tmp 99), (.tmp 100), (.tmp 101)], none⟩,
  ⟨(some 17), .mv (.tmp 102), none⟩]
def d9r23 : List GOp := [
  ⟨(some 18), .mv (.const (.slice none 0 0)), none⟩]
def d9r24 : List GOp := [
  ⟨(some 19), .mv (.const (.int .i64 0)), none⟩]
def d9r25 : List GOp := [
  ⟨(some 103), .mv (.tmp 19), none⟩,
  ⟨(some 104), .mv (.tmp 17), none⟩,
  ⟨(some 105), .len false (.tmp 104), none⟩,
  ⟨(some 106), .bin .lss (.tmp 103) (.tmp 105), none⟩]
def d9r26 : List GOp := [
  ⟨(some 109), .mv (.tmp 11), none⟩,
  ⟨(some 110), .mv (.tmp 17), none⟩,
  ⟨(some 111), .mv (.tmp 19), none⟩,
  ⟨(some 112), .idxA 1 (.tmp 110) (.tmp 111), none⟩,
  ⟨(some 113), .load 1 false (.tmp 112), none⟩,
  ⟨(some 114), .call 27 [(.tmp 109), (.tmp 113)], none⟩]
def d9r27 : List GOp := [
  ⟨(some 115), .mv (.tmp 18), none⟩,
  ⟨(some 116), .mv (.tmp 17), none⟩,
  ⟨(some 117), .mv (.tmp 19), none⟩,
  ⟨(some 118), .idxA 1 (.tmp 116) (.tmp 117), none⟩,
  ⟨(some 119), .load 1 false (.tmp 118), none⟩,
  ⟨(some 120), .bslice 3 1 1 (.int .i64 0) [(0, (.tmp 119))], none⟩,
  ⟨(some 121), .app 3 1 8 (.int .i64 0) (.tmp 115) (.tmp 120), none⟩,
  ⟨(some 18), .mv (.tmp 121), none⟩]
def d9r28 : List GOp := [
  ⟨(some 107), .mv (.tmp 19), none⟩,
  ⟨(some 108), .bin .add (.tmp 107) (.const (.int .i64 1)), none⟩,
  ⟨(some 19), .mv (.tmp 108), none⟩]
def d9l29 : DC := .seq (.seq (.reg d9r25) (.cond (.tmp 106) (.skip) (.exit 4))) (.seq (.block 5 (.seq (.reg d9r26) (.cond (.tmp 114) (.reg d9r27) (.skip)))) (.reg d9r28))
def d9r30 : List GOp := [
  ⟨(some 122), .mv (.tmp 9), none⟩,
  ⟨(some 123), .mv (.tmp 122), none⟩,
  ⟨(some 124), .mv (.tmp 0), (some (123, true))⟩,
  ⟨(some 125), .mv (.tmp 12), (some (123, true))⟩,
  ⟨(some 126), .call 15 [(.tmp 124), (.tmp 125)], (some (123, true))⟩,
  ⟨(some 127), .mv (.tmp 15), (some (123, true))⟩,
  ⟨(some 128), .call 12 [(.tmp 126), (.tmp 127)], (some (123, true))⟩,
  ⟨(some 129), .pick (.tmp 123) (.tmp 128) (.const (.bool false)), none⟩,
  ⟨(some 130), .mv (.tmp 129), none⟩,
  ⟨(some 131), .mv (.tmp 0), (some (130, true))⟩,
  ⟨(some 132), .mv (.tmp 12), (some (130, true))⟩,
  ⟨(some 133), .mv (.tmp 2), (some (130, true))⟩,
  ⟨(some 134), .call 20 [(.tmp 131), (.tmp 132), (.tmp 133)], (some (130, true))⟩,
  ⟨(some 135), .mv (.tmp 18), (some (130, true))⟩,
  ⟨(some 136), .call 19 [(.tmp 134), (.tmp 135)], (some (130, true))⟩,
  ⟨(some 137), .pick (.tmp 130) (.tmp 136) (.const (.bool false)), none⟩,
  ⟨(some 8), .mv (.tmp 137), none⟩]
def d9c : DC := .seq (.reg d9r0) (.seq (.reg d9r1) (.seq (.seq (.reg d9r2) (.cond (.tmp 30) (.seq (.reg d9r3) (.ret)) (.skip))) (.seq (.reg d9r4) (.seq (.seq (.reg d9r5) (.cond (.tmp 36) (.seq (.reg d9r6) (.ret)) (.skip))) (.seq (.reg d9r7) (.seq (.reg d9r8) (.seq (.seq (.reg d9r9) (.block 0 (.loop d9l13))) (.seq (.reg d9r14) (.seq (.reg d9r15) (.seq (.seq (.reg d9r16) (.block 2 (.loop d9l21))) (.seq (.reg d9r22) (.seq (.reg d9r23) (.seq (.seq (.reg d9r24) (.block 4 (.loop d9l29))) (.seq (.reg d9r30) (.ret)))))))))))))))
def d9 : DFn := ⟨138, d9c, [.tmp 8]⟩
theorem d9_ok : compF Try.prog 9 = some d9 := by kernel_rfl
/- foyer/foyerlaw11.head -/
def d10r0 : List GOp := [
  ⟨(some 0), .mv (.const (.bool false)), none⟩]
def d10r1 : List GOp := [
  ⟨(some 5), .call 28 [], none⟩,
  ⟨(some 1), .mv (.tmp 5), none⟩]
def d10r2 : List GOp := [
  ⟨(some 6), .mv (.tmp 1), none⟩,
  ⟨(some 7), .call 13 [(.tmp 6)], none⟩,
  ⟨(some 8), .bslice 3 1 3 (.int .i64 0) [(0, (.const (.int .i64 0))), (1, (.const (.int .i64 1))), (2, (.const (.int .i64 2)))], none⟩,
  ⟨(some 9), .bslice 3 1 2 (.int .i64 0) [(0, (.const (.int .i64 3))), (1, (.const (.int .i64 4)))], none⟩,
  ⟨(some 10), .bslice 24 1 2 (.slice none 0 0) [(0, (.tmp 8)), (1, (.tmp 9))], none⟩,
  ⟨(some 11), .call 12 [(.tmp 7), (.tmp 10)], none⟩,
  ⟨(some 12), .mv (.tmp 11), none⟩,
  ⟨(some 13), .mv (.tmp 1), (some (12, true))⟩,
  ⟨(some 14), .bslice 4 1 2 (.bool false) [(0, (.const (.bool false))), (1, (.const (.bool true)))], (some (12, true))⟩,
  ⟨(some 15), .call 15 [(.tmp 13), (.tmp 14)], (some (12, true))⟩,
  ⟨(some 16), .bslice 3 1 1 (.int .i64 0) [(0, (.const (.int .i64 0)))], (some (12, true))⟩,
  ⟨(some 17), .bslice 3 1 1 (.int .i64 0) [(0, (.const (.int .i64 2)))], (some (12, true))⟩,
  ⟨(some 18), .bslice 3 1 2 (.int .i64 0) [(0, (.const (.int .i64 3))), (1, (.const (.int .i64 4)))], (some (12, true))⟩,
  ⟨(some 19), .bslice 24 1 3 (.slice none 0 0) [(0, (.tmp 16)), (1, (.tmp 17)), (2, (.tmp 18))], (some (12, true))⟩,
  ⟨(some 20), .call 12 [(.tmp 15), (.tmp 19)], (some (12, true))⟩,
  ⟨(some 21), .pick (.tmp 12) (.tmp 20) (.const (.bool false)), none⟩,
  ⟨(some 22), .mv (.tmp 21), none⟩,
  ⟨(some 23), .mv (.tmp 1), (some (22, true))⟩,
  ⟨(some 24), .bslice 3 1 3 (.int .i64 0) [(0, (.const (.int .i64 2))), (1, (.const (.int .i64 0))), (2, (.const (.int .i64 1)))], (some (22, true))⟩,
  ⟨(some 25), .call 17 [(.tmp 23), (.tmp 24)], (some (22, true))⟩,
  ⟨(some 26), .pick (.tmp 22) (.tmp 25) (.const (.bool false)), none⟩,
  ⟨(some 27), .mv (.tmp 26), none⟩,
  ⟨(some 28), .mv (.tmp 1), (some (27, true))⟩,
  ⟨(some 29), .bslice 3 1 2 (.int .i64 0) [(0, (.const (.int .i64 2))), (1, (.const (.int .i64 3)))], (some (27, true))⟩,
  ⟨(some 30), .call 17 [(.tmp 28), (.tmp 29)], (some (27, true))⟩,
  ⟨(some 31), .un .not (.tmp 30), (some (27, true))⟩,
  ⟨(some 32), .pick (.tmp 27) (.tmp 31) (.const (.bool false)), none⟩,
  ⟨(some 33), .mv (.tmp 32), none⟩,
  ⟨(some 34), .mv (.tmp 1), (some (33, true))⟩,
  ⟨(some 35), .bslice 3 1 1 (.int .i64 0) [(0, (.const (.int .i64 3)))], (some (33, true))⟩,
  ⟨(some 36), .call 17 [(.tmp 34), (.tmp 35)], (some (33, true))⟩,
  ⟨(some 37), .pick (.tmp 33) (.tmp 36) (.const (.bool false)), none⟩,
  ⟨(some 2), .mv (.tmp 37), none⟩]
def d10r3 : List GOp := [
  ⟨(some 38), .mv (.tmp 1), none⟩,
  ⟨(some 39), .bslice 3 1 2 (.int .i64 0) [(0, (.const (.int .i64 0))), (1, (.const (.int .i64 1)))], none⟩,
  ⟨(some 40), .call 20 [(.tmp 38), (.const (.slice none 0 0)), (.tmp 39)], none⟩,
  ⟨(some 41), .bslice 3 1 1 (.int .i64 0) [(0, (.const (.int .i64 2)))], none⟩,
  ⟨(some 42), .call 19 [(.tmp 40), (.tmp 41)], none⟩,
  ⟨(some 43), .mv (.tmp 42), none⟩,
  ⟨(some 44), .mv (.tmp 1), (some (43, true))⟩,
  ⟨(some 45), .bslice 3 1 1 (.int .i64 0) [(0, (.const (.int .i64 1)))], (some (43, true))⟩,
  ⟨(some 46), .call 20 [(.tmp 44), (.const (.slice none 0 0)), (.tmp 45)], (some (43, true))⟩,
  ⟨(some 47), .bslice 3 1 2 (.int .i64 0) [(0, (.const (.int .i64 0))), (1, (.const (.int .i64 2)))], (some (43, true))⟩,
  ⟨(some 48), .call 19 [(.tmp 46), (.tmp 47)], (some (43, true))⟩,
  ⟨(some 49), .pick (.tmp 43) (.tmp 48) (.const (.bool false)), none⟩,
  ⟨(some 50), .mv (.tmp 49), none⟩,
  ⟨(some 51), .mv (.tmp 1), (some (50, true))⟩,
  ⟨(some 52), .bslice 3 1 1 (.int .i64 0) [(0, (.const (.int .i64 3)))], (some (50, true))⟩,
  ⟨(some 53), .call 20 [(.tmp 51), (.const (.slice none 0 0)), (.tmp 52)], (some (50, true))⟩,
  ⟨(some 54), .bslice 3 1 1 (.int .i64 0) [(0, (.const (.int .i64 4)))], (some (50, true))⟩,
  ⟨(some 55), .call 19 [(.tmp 53), (.tmp 54)], (some (50, true))⟩,
  ⟨(some 56), .pick (.tmp 50) (.tmp 55) (.const (.bool false)), none⟩,
  ⟨(some 57), .mv (.tmp 56), none⟩,
  ⟨(some 58), .mv (.tmp 1), (some (57, true))⟩,
  ⟨(some 59), .bslice 3 1 2 (.int .i64 0) [(0, (.const (.int .i64 3))), (1, (.const (.int .i64 4)))], (some (57, true))⟩,
  ⟨(some 60), .call 20 [(.tmp 58), (.const (.slice none 0 0)), (.tmp 59)], (some (57, true))⟩,
  ⟨(some 61), .len false (.tmp 60), (some (57, true))⟩,
  ⟨(some 62), .bin .eql (.tmp 61) (.const (.int .i64 0)), (some (57, true))⟩,
  ⟨(some 63), .pick (.tmp 57) (.tmp 62) (.const (.bool false)), none⟩,
  ⟨(some 3), .mv (.tmp 63), none⟩]
def d10r4 : List GOp := [
  ⟨(some 64), .build (.agg #[(.int .i64 0), (.int .i64 0), (.int .i64 0), (.int .i64 0), (.int .i64 0), (.int .i64 0), (.int .i64 0), (.int .i64 0), (.int .i64 0)]) [((3, 1), (.const (.int .i64 (-1)))), ((4, 1), (.const (.int .i64 1)))], none⟩,
  ⟨(some 65), .build (.agg #[(.int .i64 0), (.int .i64 0), (.int .i64 0), (.int .i64 0), (.int .i64 0), (.int .i64 0), (.int .i64 0), (.int .i64 0), (.int .i64 0)]) [((3, 1), (.const (.int .i64 (-1)))), ((4, 1), (.const (.int .i64 7)))], none⟩,
  ⟨(some 66), .build (.agg #[(.int .i64 0), (.int .i64 0), (.int .i64 0), (.int .i64 0), (.int .i64 0), (.int .i64 0), (.int .i64 0), (.int .i64 0), (.int .i64 0)]) [((3, 1), (.const (.int .i64 (-1)))), ((2, 1), (.const (.int .i64 1)))], none⟩,
  ⟨(some 67), .bslice 37 9 3 (.agg #[(.int .i64 0), (.int .i64 0), (.int .i64 0), (.int .i64 0), (.int .i64 0), (.int .i64 0), (.int .i64 0), (.int .i64 0), (.int .i64 0)]) [(0, (.tmp 64)), (1, (.tmp 65)), (2, (.tmp 66))], none⟩,
  ⟨(some 4), .mv (.tmp 67), none⟩]
def d10r5 : List GOp := [
  ⟨(some 68), .mv (.tmp 2), none⟩,
  ⟨(some 69), .mv (.tmp 68), none⟩,
  ⟨(some 70), .mv (.tmp 3), (some (69, true))⟩,
  ⟨(some 71), .pick (.tmp 69) (.tmp 70) (.const (.bool false)), none⟩,
  ⟨(some 72), .mv (.tmp 71), none⟩,
  ⟨(some 73), .mv (.tmp 4), (some (72, true))⟩,
  ⟨(some 74), .bslice 3 1 2 (.int .i64 0) [(0, (.const (.int .i64 1))), (1, (.const (.int .i64 0)))], (some (72, true))⟩,
  ⟨(some 75), .call 17 [(.tmp 73), (.tmp 74)], (some (72, true))⟩,
  ⟨(some 76), .pick (.tmp 72) (.tmp 75) (.const (.bool false)), none⟩,
  ⟨(some 77), .mv (.tmp 76), none⟩,
  ⟨(some 78), .mv (.tmp 4), (some (77, true))⟩,
  ⟨(some 79), .bslice 3 1 2 (.int .i64 0) [(0, (.const (.int .i64 1))), (1, (.const (.int .i64 2)))], (some (77, true))⟩,
  ⟨(some 80), .call 17 [(.tmp 78), (.tmp 79)], (some (77, true))⟩,
  ⟨(some 81), .un .not (.tmp 80), (some (77, true))⟩,
  ⟨(some 82), .pick (.tmp 77) (.tmp 81) (.const (.bool false)), none⟩,
  ⟨(some 83), .mv (.tmp 82), none⟩,
  ⟨(some 84), .mv (.tmp 4), (some (83, true))⟩,
  ⟨(some 85), .call 13 [(.tmp 84)], (some (83, true))⟩,
  ⟨(some 86), .len false (.tmp 85), (some (83, true))⟩,
  ⟨(some 87), .bin .eql (.tmp 86) (.const (.int .i64 0)), (some (83, true))⟩,
  ⟨(some 88), .pick (.tmp 83) (.tmp 87) (.const (.bool false)), none⟩,
  ⟨(some 89), .mv (.tmp 88), none⟩,
  ⟨(some 90), .build (.agg #[(.int .i64 0), (.int .i64 0), (.int .i64 0), (.int .i64 0), (.int .i64 0), (.int .i64 0), (.int .i64 0), (.int .i64 0), (.int .i64 0)]) [((4, 1), (.const (.int .i64 2)))], (some (89, true))⟩,
  ⟨(some 91), .build (.agg #[(.int .i64 0), (.int .i64 0), (.int .i64 0), (.int .i64 0), (.int .i64 0), (.int .i64 0), (.int .i64 0), (.int .i64 0), (.int .i64 0)]) [((4, 1), (.const (.int .i64 1)))], (some (89, true))⟩,
  ⟨(some 92), .bslice 37 9 2 (.agg #[(.int .i64 0), (.int .i64 0), (.int .i64 0), (.int .i64 0), (.int .i64 0), (.int .i64 0), (.int .i64 0), (.int .i64 0), (.int .i64 0)]) [(0, (.tmp 90)), (1, (.tmp 91))], (some (89, true))⟩,
  ⟨(some 93), .call 13 [(.tmp 92)], (some (89, true))⟩,
  ⟨(some 94), .len false (.tmp 93), (some (89, true))⟩,
  ⟨(some 95), .bin .eql (.tmp 94) (.const (.int .i64 0)), (some (89, true))⟩,
  ⟨(some 96), .pick (.tmp 89) (.tmp 95) (.const (.bool false)), none⟩,
  ⟨(some 0), .mv (.tmp 96), none⟩]
def d10c : DC := .seq (.reg d10r0) (.seq (.reg d10r1) (.seq (.reg d10r2) (.seq (.reg d10r3) (.seq (.reg d10r4) (.seq (.reg d10r5) (.ret))))))
def d10 : DFn := ⟨97, d10c, [.tmp 0]⟩
theorem d10_ok : compF Try.prog 10 = some d10 := by kernel_rfl
/- foyer/foyerlaw11.few -/
def d11r0 : List GOp := [
  ⟨(some 6), .mv (.const (.bool false)), none⟩]
def d11r1 : List GOp := [
  ⟨(some 7), .mv (.tmp 0), none⟩,
  ⟨(some 8), .len false (.tmp 7), none⟩,
  ⟨(some 9), .bin .leq (.tmp 8) (.const (.int .i64 60)), none⟩,
  ⟨(some 10), .mv (.tmp 9), none⟩,
  ⟨(some 11), .mv (.tmp 1), (some (10, true))⟩,
  ⟨(some 12), .len false (.tmp 11), (some (10, true))⟩,
  ⟨(some 13), .bin .leq (.tmp 12) (.const (.int .i64 60)), (some (10, true))⟩,
  ⟨(some 14), .pick (.tmp 10) (.tmp 13) (.const (.bool false)), none⟩,
  ⟨(some 15), .mv (.tmp 14), none⟩,
  ⟨(some 16), .mv (.tmp 2), (some (15, true))⟩,
  ⟨(some 17), .len false (.tmp 16), (some (15, true))⟩,
  ⟨(some 18), .bin .leq (.tmp 17) (.const (.int .i64 60)), (some (15, true))⟩,
  ⟨(some 19), .pick (.tmp 15) (.tmp 18) (.const (.bool false)), none⟩,
  ⟨(some 6), .mv (.tmp 19), none⟩]
def d11c : DC := .seq (.reg d11r0) (.seq (.reg d11r1) (.ret))
def d11 : DFn := ⟨20, d11c, [.tmp 6]⟩
theorem d11_ok : compF Try.prog 11 = some d11 := by kernel_rfl
/- foyer/foyerref11.Lists -/
def d12r0 : List GOp := [
  ⟨(some 4), .mv (.const (.bool false)), none⟩]
def d12r1 : List GOp := [
  ⟨(some 6), .mv (.tmp 0), none⟩,
  ⟨(some 7), .len false (.tmp 6), none⟩,
  ⟨(some 8), .mv (.tmp 1), none⟩,
  ⟨(some 9), .len false (.tmp 8), none⟩,
  ⟨(some 10), .bin .neq (.tmp 7) (.tmp 9), none⟩]
def d12r2 : List GOp := [
  ⟨(some 4), .mv (.const (.bool false)), none⟩]
def d12r3 : List GOp := [
  ⟨(some 5), .mv (.const (.int .i64 0)), none⟩]
def d12r4 : List GOp := [
  ⟨(some 11), .mv (.tmp 5), none⟩,
  ⟨(some 12), .mv (.tmp 0), none⟩,
  ⟨(some 13), .len false (.tmp 12), none⟩,
  ⟨(some 14), .bin .lss (.tmp 11) (.tmp 13), none⟩]
def d12r5 : List GOp := [
  ⟨(some 17), .mv (.tmp 0), none⟩,
  ⟨(some 18), .mv (.tmp 5), none⟩,
  ⟨(some 19), .idxA 1 (.tmp 17) (.tmp 18), none⟩,
  ⟨(some 20), .load 1 false (.tmp 19), none⟩,
  ⟨(some 21), .mv (.tmp 1), none⟩,
  ⟨(some 22), .mv (.tmp 5), none⟩,
  ⟨(some 23), .idxA 1 (.tmp 21) (.tmp 22), none⟩,
  ⟨(some 24), .load 1 false (.tmp 23), none⟩,
  ⟨(some 25), .call 19 [(.tmp 20), (.tmp 24)], none⟩,
  ⟨(some 26), .un .not (.tmp 25), none⟩]
def d12r6 : List GOp := [
  ⟨(some 4), .mv (.const (.bool false)), none⟩]
def d12r7 : List GOp := [
  ⟨(some 15), .mv (.tmp 5), none⟩,
  ⟨(some 16), .bin .add (.tmp 15) (.const (.int .i64 1)), none⟩,
  ⟨(some 5), .mv (.tmp 16), none⟩]
def d12l8 : DC := .seq (.seq (.reg d12r4) (.cond (.tmp 14) (.skip) (.exit 0))) (.seq (.block 1 (.seq (.par d12r5) (.cond (.tmp 26) (.seq (.reg d12r6) (.ret)) (.skip)))) (.reg d12r7))
def d12r9 : List GOp := [
  ⟨(some 4), .mv (.const (.bool true)), none⟩]
def d12c : DC := .seq (.reg d12r0) (.seq (.seq (.reg d12r1) (.cond (.tmp 10) (.seq (.reg d12r2) (.ret)) (.skip))) (.seq (.seq (.reg d12r3) (.block 0 (.loop d12l8))) (.seq (.reg d12r9) (.ret))))
def d12 : DFn := ⟨27, d12c, [.tmp 4]⟩
theorem d12_ok : compF Try.prog 12 = some d12 := by kernel_rfl
/- foyer/runs.Rows -/
def d13r0 : List GOp := [
  ⟨(some 2), .mv (.const (.slice none 0 0)), none⟩]
def d13r1 : List GOp := [
  ⟨(some 3), .mv (.tmp 0), none⟩,
  ⟨(some 4), .call 15 [(.tmp 3), (.const (.slice none 0 0))], none⟩,
  ⟨(some 2), .mv (.tmp 4), none⟩]
def d13c : DC := .seq (.reg d13r0) (.seq (.reg d13r1) (.ret))
def d13 : DFn := ⟨5, d13c, [.tmp 2]⟩
theorem d13_ok : compF Try.prog 13 = some d13 := by kernel_rfl
/- foyer/foyerref11.Rows -/
def d14r0 : List GOp := [
  ⟨(some 2), .mv (.const (.slice none 0 0)), none⟩]
def d14r1 : List GOp := [
  ⟨(some 3), .mv (.tmp 0), none⟩,
  ⟨(some 4), .call 16 [(.tmp 3), (.const (.slice none 0 0))], none⟩,
  ⟨(some 2), .mv (.tmp 4), none⟩]
def d14c : DC := .seq (.reg d14r0) (.seq (.reg d14r1) (.ret))
def d14 : DFn := ⟨5, d14c, [.tmp 2]⟩
theorem d14_ok : compF Try.prog 14 = some d14 := by kernel_rfl
/- foyer/runs.Free -/
def d15r0 : List GOp := [
  ⟨(some 3), .box 23 (.tmp 1), none⟩,
  ⟨(some 4), .mv (.const (.slice none 0 0)), none⟩]
def d15r1 : List GOp := [
  ⟨(some 15), .mv (.tmp 0), none⟩,
  ⟨(some 16), .call 29 [(.tmp 15)], none⟩,
  ⟨(some 14), .mv (.tmp 16), none⟩,
  ⟨(some 17), .ext (.tmp 14) 0, none⟩,
  ⟨(some 18), .ext (.tmp 14) 1, none⟩,
  ⟨(some 5), .mv (.tmp 17), none⟩,
  ⟨(some 6), .mv (.tmp 18), none⟩]
def d15r2 : List GOp := [
  ⟨(some 19), .mv (.tmp 5), none⟩,
  ⟨(some 20), .mkfn (.func 31) [] [(.tmp 3)], none⟩,
  ⟨(some 21), .call 30 [(.tmp 19), (.tmp 20)], none⟩,
  ⟨(some 7), .mv (.tmp 21), none⟩]
def d15r3 : List GOp := [
  ⟨(some 8), .mv (.const (.slice none 0 0)), none⟩]
def d15r4 : List GOp := [
  ⟨(some 22), .mv (.tmp 7), none⟩,
  ⟨(some 23), .call 33 [(.tmp 22), (.func 34)], none⟩,
  ⟨(some 24), .len false (.tmp 23), none⟩,
  ⟨(some 25), .mv (.const (.int .i64 0)), none⟩]
def d15r5 : List GOp := [
  ⟨(some 26), .bin .lss (.tmp 25) (.tmp 24), none⟩]
def d15r6 : List GOp := [
  ⟨(some 27), .idxA 1 (.tmp 23) (.tmp 25), none⟩,
  ⟨(some 28), .load 1 false (.tmp 27), none⟩,
  ⟨(some 10), .mv (.tmp 28), none⟩]
def d15r7 : List GOp := [
  ⟨(some 11), .mv (.const (.slice none 0 0)), none⟩]
def d15r8 : List GOp := [
  ⟨(some 29), .mv (.tmp 10), none⟩,
  ⟨(some 30), .len false (.tmp 29), none⟩,
  ⟨(some 31), .mv (.const (.int .i64 0)), none⟩]
def d15r9 : List GOp := [
  ⟨(some 32), .bin .lss (.tmp 31) (.tmp 30), none⟩]
def d15r10 : List GOp := [
  ⟨(some 33), .idxA 10 (.tmp 29) (.tmp 31), none⟩,
  ⟨(some 34), .load 10 true (.tmp 33), none⟩,
  ⟨(some 13), .alloc 52 (.agg #[(.int .i64 0), (.int .i64 0), (.int .i64 0), (.int .i64 0), (.int .i64 0), (.int .i64 0), (.int .i64 0), (.int .i64 0), (.int .i64 0), (.int .i64 0)]), none⟩,
  ⟨none, .store 10 (.tmp 13) (.tmp 34), none⟩]
def d15r11 : List GOp := [
  ⟨(some 35), .mv (.tmp 11), none⟩,
  ⟨(some 36), .fadd 9 (.tmp 13), none⟩,
  ⟨(some 37), .load 1 false (.tmp 36), none⟩,
  ⟨(some 38), .bslice 3 1 1 (.int .i64 0) [(0, (.tmp 37))], none⟩,
  ⟨(some 39), .app 3 1 8 (.int .i64 0) (.tmp 35) (.tmp 38), none⟩,
  ⟨(some 11), .mv (.tmp 39), none⟩]
def d15r12 : List GOp := [
  ⟨(some 40), .bin .add (.tmp 31) (.const (.int .i64 1)), none⟩,
  ⟨(some 31), .mv (.tmp 40), none⟩]
def d15l13 : DC := .seq (.reg d15r9) (.seq (.cond (.tmp 32) (.skip) (.exit 2)) (.seq (.block 3 (.seq (.reg d15r10) (.reg d15r11))) (.reg d15r12)))
def d15r14 : List GOp := [
  ⟨(some 41), .mv (.tmp 8), none⟩,
  ⟨(some 42), .mv (.tmp 11), none⟩,
  ⟨(some 43), .bslice 24 1 1 (.slice none 0 0) [(0, (.tmp 42))], none⟩,
  ⟨(some 44), .app 24 1 24 (.slice none 0 0) (.tmp 41) (.tmp 43), none⟩,
  ⟨(some 8), .mv (.tmp 44), none⟩]
def d15r15 : List GOp := [
  ⟨(some 45), .bin .add (.tmp 25) (.const (.int .i64 1)), none⟩,
  ⟨(some 25), .mv (.tmp 45), none⟩]
def d15l16 : DC := .seq (.reg d15r5) (.seq (.cond (.tmp 26) (.skip) (.exit 0)) (.seq (.block 1 (.seq (.reg d15r6) (.seq (.reg d15r7) (.seq (.seq (.reg d15r8) (.block 2 (.loop d15l13))) (.reg d15r14))))) (.reg d15r15)))
def d15r17 : List GOp := [
  ⟨(some 46), .mv (.tmp 8), none⟩,
  ⟨(some 4), .mv (.tmp 46), none⟩]
def d15c : DC := .seq (.reg d15r0) (.seq (.reg d15r1) (.seq (.reg d15r2) (.seq (.reg d15r3) (.seq (.seq (.reg d15r4) (.block 0 (.loop d15l16))) (.seq (.reg d15r17) (.ret))))))
def d15 : DFn := ⟨47, d15c, [.tmp 4]⟩
theorem d15_ok : compF Try.prog 15 = some d15 := by kernel_rfl
/- foyer/foyerref11.Free -/
def d16r0 : List GOp := [
  ⟨(some 4), .mv (.const (.slice none 0 0)), none⟩]
def d16r1 : List GOp := [
  ⟨(some 9), .mv (.tmp 0), none⟩,
  ⟨(some 10), .call 22 [(.tmp 9)], none⟩,
  ⟨(some 11), .un .not (.tmp 10), none⟩]
def d16r2 : List GOp := [
  ⟨(some 4), .mv (.const (.slice none 0 0)), none⟩]
def d16r3 : List GOp := [
  ⟨(some 5), .mv (.const (.slice none 0 0)), none⟩]
def d16r4 : List GOp := [
  ⟨(some 6), .mv (.const (.int .i64 (-1))), none⟩]
def d16r5 : List GOp := [
  ⟨(some 7), .mv (.const (.int .i64 0)), none⟩]
def d16r6 : List GOp := [
  ⟨(some 12), .mv (.tmp 7), none⟩,
  ⟨(some 13), .mv (.tmp 0), none⟩,
  ⟨(some 14), .len false (.tmp 13), none⟩,
  ⟨(some 15), .bin .lss (.tmp 12) (.tmp 14), none⟩]
def d16r7 : List GOp := [
  ⟨(some 18), .mv (.tmp 0), none⟩,
  ⟨(some 19), .mv (.tmp 7), none⟩,
  ⟨(some 20), .idxA 9 (.tmp 18) (.tmp 19), none⟩,
  ⟨(some 21), .load 9 true (.tmp 20), none⟩,
  ⟨(some 22), .call 24 [(.tmp 21)], none⟩,
  ⟨(some 23), .un .not (.tmp 22), none⟩]
def d16r8 : List GOp := [
  ⟨(some 24), .mv (.tmp 1), none⟩,
  ⟨(some 25), .mv (.tmp 7), none⟩,
  ⟨(some 26), .call 25 [(.tmp 24), (.tmp 25)], none⟩]
def d16r9 : List GOp := [
  ⟨(some 6), .mv (.const (.int .i64 (-1))), none⟩]
def d16r10 : List GOp := [
  ⟨(some 27), .mv (.tmp 6), none⟩,
  ⟨(some 28), .bin .geq (.tmp 27) (.const (.int .i64 0)), none⟩,
  ⟨(some 29), .mv (.tmp 28), none⟩,
  ⟨(some 30), .mv (.tmp 0), (some (29, true))⟩,
  ⟨(some 31), .mv (.tmp 6), (some (29, true))⟩,
  ⟨(some 32), .idxA 9 (.tmp 30) (.tmp 31), (some (29, true))⟩,
  ⟨(some 33), .load 9 true (.tmp 32), (some (29, true))⟩,
  ⟨(some 34), .mv (.tmp 0), (some (29, true))⟩,
  ⟨(some 35), .mv (.tmp 7), (some (29, true))⟩,
  ⟨(some 36), .idxA 9 (.tmp 34) (.tmp 35), (some (29, true))⟩,
  ⟨(some 37), .load 9 true (.tmp 36), (some (29, true))⟩,
  ⟨(some 38), .call 23 [(.tmp 33), (.tmp 37)], (some (29, true))⟩,
  ⟨(some 39), .pick (.tmp 29) (.tmp 38) (.const (.bool false)), none⟩]
def d16r11 : List GOp := [
  ⟨(some 40), .mv (.tmp 5), none⟩,
  ⟨(some 41), .len false (.tmp 40), none⟩,
  ⟨(some 42), .bin .sub (.tmp 41) (.const (.int .i64 1)), none⟩,
  ⟨(some 8), .mv (.tmp 42), none⟩]
def d16r12 : List GOp := [
  ⟨(some 43), .mv (.tmp 5), none⟩,
  ⟨(some 44), .mv (.tmp 8), none⟩,
  ⟨(some 45), .mv (.tmp 5), none⟩,
  ⟨(some 46), .mv (.tmp 8), none⟩,
  ⟨(some 47), .idxA 1 (.tmp 45) (.tmp 46), none⟩,
  ⟨(some 48), .load 1 false (.tmp 47), none⟩,
  ⟨(some 49), .mv (.tmp 7), none⟩,
  ⟨(some 50), .bslice 3 1 1 (.int .i64 0) [(0, (.tmp 49))], none⟩,
  ⟨(some 51), .app 3 1 8 (.int .i64 0) (.tmp 48) (.tmp 50), none⟩,
  ⟨(some 52), .idxA 1 (.tmp 43) (.tmp 44), none⟩,
  ⟨none, .store 1 (.tmp 52) (.tmp 51), none⟩]
def d16r13 : List GOp := [
  ⟨(some 53), .mv (.tmp 5), none⟩,
  ⟨(some 54), .mv (.tmp 7), none⟩,
  ⟨(some 55), .bslice 3 1 1 (.int .i64 0) [(0, (.tmp 54))], none⟩,
  ⟨(some 56), .bslice 24 1 1 (.slice none 0 0) [(0, (.tmp 55))], none⟩,
  ⟨(some 57), .app 24 1 24 (.slice none 0 0) (.tmp 53) (.tmp 56), none⟩,
  ⟨(some 5), .mv (.tmp 57), none⟩]
def d16r14 : List GOp := [
  ⟨(some 58), .mv (.tmp 7), none⟩,
  ⟨(some 6), .mv (.tmp 58), none⟩]
def d16r15 : List GOp := [
  ⟨(some 16), .mv (.tmp 7), none⟩,
  ⟨(some 17), .bin .add (.tmp 16) (.const (.int .i64 1)), none⟩,
  ⟨(some 7), .mv (.tmp 17), none⟩]
def d16l16 : DC := .seq (.seq (.reg d16r6) (.cond (.tmp 15) (.skip) (.exit 0))) (.seq (.block 1 (.seq (.seq (.reg d16r7) (.cond (.tmp 23) (.exit 1) (.skip))) (.seq (.seq (.reg d16r8) (.cond (.tmp 26) (.seq (.reg d16r9) (.exit 1)) (.skip))) (.seq (.seq (.par d16r10) (.cond (.tmp 39) (.seq (.reg d16r11) (.reg d16r12)) (.reg d16r13))) (.reg d16r14))))) (.reg d16r15))
def d16r17 : List GOp := [
  ⟨(some 59), .mv (.tmp 5), none⟩,
  ⟨(some 4), .mv (.tmp 59), none⟩]
def d16c : DC := .seq (.reg d16r0) (.seq (.seq (.reg d16r1) (.cond (.tmp 11) (.seq (.reg d16r2) (.ret)) (.skip))) (.seq (.reg d16r3) (.seq (.reg d16r4) (.seq (.seq (.reg d16r5) (.block 0 (.loop d16l16))) (.seq (.reg d16r17) (.ret))))))
def d16 : DFn := ⟨60, d16c, [.tmp 4]⟩
theorem d16_ok : compF Try.prog 16 = some d16 := by kernel_rfl
/- foyer/runs.Together -/
def d17r0 : List GOp := [
  ⟨(some 4), .mv (.const (.bool false)), none⟩]
def d17r1 : List GOp := [
  ⟨(some 12), .mv (.tmp 1), none⟩,
  ⟨(some 13), .call 36 [(.tmp 12)], none⟩,
  ⟨(some 14), .call 35 [(.tmp 13)], none⟩,
  ⟨(some 5), .mv (.tmp 14), none⟩]
def d17r2 : List GOp := [
  ⟨(some 16), .mv (.tmp 0), none⟩,
  ⟨(some 17), .call 29 [(.tmp 16)], none⟩,
  ⟨(some 15), .mv (.tmp 17), none⟩,
  ⟨(some 18), .ext (.tmp 15) 0, none⟩,
  ⟨(some 19), .ext (.tmp 15) 1, none⟩,
  ⟨(some 6), .mv (.tmp 18), none⟩,
  ⟨(some 7), .mv (.tmp 19), none⟩]
def d17r3 : List GOp := [
  ⟨(some 20), .mv (.tmp 7), none⟩,
  ⟨(some 21), .un .not (.tmp 20), none⟩,
  ⟨(some 22), .mv (.tmp 21), none⟩,
  ⟨(some 23), .mv (.tmp 5), (some (22, false))⟩,
  ⟨(some 24), .len false (.tmp 23), (some (22, false))⟩,
  ⟨(some 25), .bin .eql (.tmp 24) (.const (.int .i64 0)), (some (22, false))⟩,
  ⟨(some 26), .pick (.tmp 22) (.const (.bool true)) (.tmp 25), none⟩,
  ⟨(some 27), .mv (.tmp 26), none⟩,
  ⟨(some 28), .mv (.tmp 5), (some (27, false))⟩,
  ⟨(some 29), .idxA 1 (.tmp 28) (.const (.int .i64 0)), (some (27, false))⟩,
  ⟨(some 30), .load 1 false (.tmp 29), (some (27, false))⟩,
  ⟨(some 31), .bin .lss (.tmp 30) (.const (.int .i64 0)), (some (27, false))⟩,
  ⟨(some 32), .pick (.tmp 27) (.const (.bool true)) (.tmp 31), none⟩,
  ⟨(some 33), .mv (.tmp 32), none⟩,
  ⟨(some 34), .mv (.tmp 5), (some (33, false))⟩,
  ⟨(some 35), .mv (.tmp 5), (some (33, false))⟩,
  ⟨(some 36), .len false (.tmp 35), (some (33, false))⟩,
  ⟨(some 37), .bin .sub (.tmp 36) (.const (.int .i64 1)), (some (33, false))⟩,
  ⟨(some 38), .idxA 1 (.tmp 34) (.tmp 37), (some (33, false))⟩,
  ⟨(some 39), .load 1 false (.tmp 38), (some (33, false))⟩,
  ⟨(some 40), .mv (.tmp 0), (some (33, false))⟩,
  ⟨(some 41), .len false (.tmp 40), (some (33, false))⟩,
  ⟨(some 42), .bin .geq (.tmp 39) (.tmp 41), (some (33, false))⟩,
  ⟨(some 43), .pick (.tmp 33) (.const (.bool true)) (.tmp 42), none⟩,
  ⟨(some 44), .mv (.tmp 43), none⟩,
  ⟨(some 45), .mv (.tmp 5), (some (44, false))⟩,
  ⟨(some 46), .call 38 [(.tmp 45)], (some (44, false))⟩,
  ⟨(some 47), .call 37 [(.tmp 46)], (some (44, false))⟩,
  ⟨(some 48), .len false (.tmp 47), (some (44, false))⟩,
  ⟨(some 49), .mv (.tmp 5), (some (44, false))⟩,
  ⟨(some 50), .len false (.tmp 49), (some (44, false))⟩,
  ⟨(some 51), .bin .lss (.tmp 48) (.tmp 50), (some (44, false))⟩,
  ⟨(some 52), .pick (.tmp 44) (.const (.bool true)) (.tmp 51), none⟩]
def d17r4 : List GOp := [
  ⟨(some 4), .mv (.const (.bool false)), none⟩]
def d17r5 : List GOp := [
  ⟨(some 8), .mv (.const (.int .i64 1)), none⟩]
def d17r6 : List GOp := [
  ⟨(some 53), .mv (.tmp 8), none⟩,
  ⟨(some 54), .mv (.tmp 5), none⟩,
  ⟨(some 55), .len false (.tmp 54), none⟩,
  ⟨(some 56), .bin .lss (.tmp 53) (.tmp 55), none⟩]
def d17r7 : List GOp := [
  ⟨(some 59), .mv (.tmp 0), none⟩,
  ⟨(some 60), .mv (.tmp 5), none⟩,
  ⟨(some 61), .mv (.tmp 8), none⟩,
  ⟨(some 62), .bin .sub (.tmp 61) (.const (.int .i64 1)), none⟩,
  ⟨(some 63), .idxA 1 (.tmp 60) (.tmp 62), none⟩,
  ⟨(some 64), .load 1 false (.tmp 63), none⟩,
  ⟨(some 65), .idxA 9 (.tmp 59) (.tmp 64), none⟩,
  ⟨(some 66), .load 9 true (.tmp 65), none⟩,
  ⟨(some 67), .mv (.tmp 0), none⟩,
  ⟨(some 68), .mv (.tmp 5), none⟩,
  ⟨(some 69), .mv (.tmp 8), none⟩,
  ⟨(some 70), .idxA 1 (.tmp 68) (.tmp 69), none⟩,
  ⟨(some 71), .load 1 false (.tmp 70), none⟩,
  ⟨(some 72), .idxA 9 (.tmp 67) (.tmp 71), none⟩,
  ⟨(some 73), .load 9 true (.tmp 72), none⟩,
  ⟨(some 9), .alloc 37 (.agg #[(.int .i64 0), (.int .i64 0), (.int .i64 0), (.int .i64 0), (.int .i64 0), (.int .i64 0), (.int .i64 0), (.int .i64 0), (.int .i64 0)]), none⟩,
  ⟨(some 10), .alloc 37 (.agg #[(.int .i64 0), (.int .i64 0), (.int .i64 0), (.int .i64 0), (.int .i64 0), (.int .i64 0), (.int .i64 0), (.int .i64 0), (.int .i64 0)]), none⟩,
  ⟨none, .store 9 (.tmp 9) (.tmp 66), none⟩,
  ⟨none, .store 9 (.tmp 10) (.tmp 73), none⟩]
def d17r8 : List GOp := [
  ⟨(some 74), .fadd 3 (.tmp 9), none⟩,
  ⟨(some 75), .load 1 false (.tmp 74), none⟩,
  ⟨(some 76), .bin .lss (.tmp 75) (.const (.int .i64 0)), none⟩,
  ⟨(some 77), .mv (.tmp 76), none⟩,
  ⟨(some 78), .fadd 3 (.tmp 10), (some (77, true))⟩,
  ⟨(some 79), .load 1 false (.tmp 78), (some (77, true))⟩,
  ⟨(some 80), .bin .lss (.tmp 79) (.const (.int .i64 0)), (some (77, true))⟩,
  ⟨(some 81), .pick (.tmp 77) (.tmp 80) (.const (.bool false)), none⟩,
  ⟨(some 82), .mv (.tmp 81), none⟩,
  ⟨(some 83), .fadd 1 (.tmp 9), (some (82, true))⟩,
  ⟨(some 84), .load 1 false (.tmp 83), (some (82, true))⟩,
  ⟨(some 85), .fadd 1 (.tmp 10), (some (82, true))⟩,
  ⟨(some 86), .load 1 false (.tmp 85), (some (82, true))⟩,
  ⟨(some 87), .bin .eql (.tmp 84) (.tmp 86), (some (82, true))⟩,
  ⟨(some 88), .pick (.tmp 82) (.tmp 87) (.const (.bool false)), none⟩,
  ⟨(some 89), .mv (.tmp 88), none⟩,
  ⟨(some 90), .fadd 2 (.tmp 9), (some (89, true))⟩,
  ⟨(some 91), .load 1 false (.tmp 90), (some (89, true))⟩,
  ⟨(some 92), .fadd 2 (.tmp 10), (some (89, true))⟩,
  ⟨(some 93), .load 1 false (.tmp 92), (some (89, true))⟩,
  ⟨(some 94), .bin .eql (.tmp 91) (.tmp 93), (some (89, true))⟩,
  ⟨(some 95), .pick (.tmp 89) (.tmp 94) (.const (.bool false)), none⟩,
  ⟨(some 11), .mv (.tmp 95), none⟩]
def d17r9 : List GOp := [
  ⟨(some 96), .mv (.tmp 11), none⟩,
  ⟨(some 97), .un .not (.tmp 96), none⟩,
  ⟨(some 98), .mv (.tmp 97), none⟩,
  ⟨(some 99), .fadd 3 (.tmp 9), (some (98, true))⟩,
  ⟨(some 100), .load 1 false (.tmp 99), (some (98, true))⟩,
  ⟨(some 101), .bin .lss (.tmp 100) (.const (.int .i64 0)), (some (98, true))⟩,
  ⟨(some 102), .mv (.tmp 101), (some (98, true))⟩,
  ⟨(some 103), .fadd 3 (.tmp 10), (some (102, false))⟩,
  ⟨(some 104), .load 1 false (.tmp 103), (some (102, false))⟩,
  ⟨(some 105), .bin .lss (.tmp 104) (.const (.int .i64 0)), (some (102, false))⟩,
  ⟨(some 106), .pick (.tmp 102) (.const (.bool true)) (.tmp 105), (some (98, true))⟩,
  ⟨(some 107), .mv (.tmp 106), (some (98, true))⟩,
  ⟨(some 108), .load 9 true (.tmp 10), (some (107, false))⟩,
  ⟨(some 109), .build (.agg #[(.int .i64 0), (.int .i64 0), (.int .i64 0), (.int .i64 0), (.int .i64 0), (.int .i64 0), (.int .i64 0), (.int .i64 0), (.int .i64 0), (.int .i64 0)]) [((0, 9), (.tmp 108)), ((9, 1), (.const (.int .i64 0)))], (some (107, false))⟩,
  ⟨(some 110), .load 9 true (.tmp 9), (some (107, false))⟩,
  ⟨(some 111), .build (.agg #[(.int .i64 0), (.int .i64 0), (.int .i64 0), (.int .i64 0), (.int .i64 0), (.int .i64 0), (.int .i64 0), (.int .i64 0), (.int .i64 0), (.int .i64 0)]) [((0, 9), (.tmp 110)), ((9, 1), (.const (.int .i64 0)))], (some (107, false))⟩,
  ⟨(some 112), .call 34 [(.tmp 109), (.tmp 111)], (some (107, false))⟩,
  ⟨(some 113), .un .not (.tmp 112), (some (107, false))⟩,
  ⟨(some 114), .pick (.tmp 107) (.const (.bool true)) (.tmp 113), (some (98, true))⟩,
  ⟨(some 115), .pick (.tmp 98) (.tmp 114) (.const (.bool false)), none⟩]
def d17r10 : List GOp := [
  ⟨(some 4), .mv (.const (.bool false)), none⟩]
def d17r11 : List GOp := [
  ⟨(some 57), .mv (.tmp 8), none⟩,
  ⟨(some 58), .bin .add (.tmp 57) (.const (.int .i64 1)), none⟩,
  ⟨(some 8), .mv (.tmp 58), none⟩]
def d17l12 : DC := .seq (.seq (.reg d17r6) (.cond (.tmp 56) (.skip) (.exit 0))) (.seq (.block 1 (.seq (.par d17r7) (.seq (.reg d17r8) (.seq (.reg d17r9) (.cond (.tmp 115) (.seq (.reg d17r10) (.ret)) (.skip)))))) (.reg d17r11))
def d17r13 : List GOp := [
  ⟨(some 4), .mv (.const (.bool true)), none⟩]
def d17c : DC := .seq (.reg d17r0) (.seq (.reg d17r1) (.seq (.seq (.reg d17r2) (.seq (.reg d17r3) (.cond (.tmp 52) (.seq (.reg d17r4) (.ret)) (.skip)))) (.seq (.seq (.reg d17r5) (.block 0 (.loop d17l12))) (.seq (.reg d17r13) (.ret)))))
def d17 : DFn := ⟨116, d17c, [.tmp 4]⟩
theorem d17_ok : compF Try.prog 17 = some d17 := by kernel_rfl
/- foyer/foyerref11.Together -/
def d18r0 : List GOp := [
  ⟨(some 4), .mv (.const (.bool false)), none⟩]
def d18r1 : List GOp := [
  ⟨(some 14), .mv (.tmp 0), none⟩,
  ⟨(some 15), .call 22 [(.tmp 14)], none⟩,
  ⟨(some 16), .un .not (.tmp 15), none⟩,
  ⟨(some 17), .mv (.tmp 16), none⟩,
  ⟨(some 18), .mv (.tmp 1), (some (17, false))⟩,
  ⟨(some 19), .len false (.tmp 18), (some (17, false))⟩,
  ⟨(some 20), .bin .eql (.tmp 19) (.const (.int .i64 0)), (some (17, false))⟩,
  ⟨(some 21), .pick (.tmp 17) (.const (.bool true)) (.tmp 20), none⟩]
def d18r2 : List GOp := [
  ⟨(some 4), .mv (.const (.bool false)), none⟩]
def d18r3 : List GOp := [
  ⟨(some 5), .mv (.const (.int .i64 0)), none⟩]
def d18r4 : List GOp := [
  ⟨(some 22), .mv (.tmp 5), none⟩,
  ⟨(some 23), .mv (.tmp 1), none⟩,
  ⟨(some 24), .len false (.tmp 23), none⟩,
  ⟨(some 25), .bin .lss (.tmp 22) (.tmp 24), none⟩]
def d18r5 : List GOp := [
  ⟨(some 28), .mv (.tmp 1), none⟩,
  ⟨(some 29), .mv (.tmp 5), none⟩,
  ⟨(some 30), .idxA 1 (.tmp 28) (.tmp 29), none⟩,
  ⟨(some 31), .load 1 false (.tmp 30), none⟩,
  ⟨(some 32), .bin .lss (.tmp 31) (.const (.int .i64 0)), none⟩,
  ⟨(some 33), .mv (.tmp 32), none⟩,
  ⟨(some 34), .mv (.tmp 1), (some (33, false))⟩,
  ⟨(some 35), .mv (.tmp 5), (some (33, false))⟩,
  ⟨(some 36), .idxA 1 (.tmp 34) (.tmp 35), (some (33, false))⟩,
  ⟨(some 37), .load 1 false (.tmp 36), (some (33, false))⟩,
  ⟨(some 38), .mv (.tmp 0), (some (33, false))⟩,
  ⟨(some 39), .len false (.tmp 38), (some (33, false))⟩,
  ⟨(some 40), .bin .geq (.tmp 37) (.tmp 39), (some (33, false))⟩,
  ⟨(some 41), .pick (.tmp 33) (.const (.bool true)) (.tmp 40), none⟩,
  ⟨(some 42), .mv (.tmp 41), none⟩,
  ⟨(some 43), .mv (.tmp 1), (some (42, false))⟩,
  ⟨(some 44), .mv (.tmp 5), (some (42, false))⟩,
  ⟨(some 45), .slc 1 (.tmp 43) none (some (.tmp 44)), (some (42, false))⟩,
  ⟨(some 46), .mv (.tmp 1), (some (42, false))⟩,
  ⟨(some 47), .mv (.tmp 5), (some (42, false))⟩,
  ⟨(some 48), .idxA 1 (.tmp 46) (.tmp 47), (some (42, false))⟩,
  ⟨(some 49), .load 1 false (.tmp 48), (some (42, false))⟩,
  ⟨(some 50), .call 27 [(.tmp 45), (.tmp 49)], (some (42, false))⟩,
  ⟨(some 51), .pick (.tmp 42) (.const (.bool true)) (.tmp 50), none⟩]
def d18r6 : List GOp := [
  ⟨(some 4), .mv (.const (.bool false)), none⟩]
def d18r7 : List GOp := [
  ⟨(some 26), .mv (.tmp 5), none⟩,
  ⟨(some 27), .bin .add (.tmp 26) (.const (.int .i64 1)), none⟩,
  ⟨(some 5), .mv (.tmp 27), none⟩]
def d18l8 : DC := .seq (.seq (.reg d18r4) (.cond (.tmp 25) (.skip) (.exit 0))) (.seq (.block 1 (.seq (.par d18r5) (.cond (.tmp 51) (.seq (.reg d18r6) (.ret)) (.skip)))) (.reg d18r7))
def d18r9 : List GOp := [
  ⟨(some 52), .mv (.tmp 1), none⟩,
  ⟨(some 53), .len false (.tmp 52), none⟩,
  ⟨(some 54), .bin .eql (.tmp 53) (.const (.int .i64 1)), none⟩]
def d18r10 : List GOp := [
  ⟨(some 4), .mv (.const (.bool true)), none⟩]
def d18r11 : List GOp := [
  ⟨(some 55), .mv (.tmp 1), none⟩,
  ⟨(some 56), .idxA 1 (.tmp 55) (.const (.int .i64 0)), none⟩,
  ⟨(some 57), .load 1 false (.tmp 56), none⟩,
  ⟨(some 6), .mv (.tmp 57), none⟩]
def d18r12 : List GOp := [
  ⟨(some 7), .mv (.const (.int .i64 0)), none⟩]
def d18r13 : List GOp := [
  ⟨(some 58), .mv (.tmp 7), none⟩,
  ⟨(some 59), .mv (.tmp 1), none⟩,
  ⟨(some 60), .len false (.tmp 59), none⟩,
  ⟨(some 61), .bin .lss (.tmp 58) (.tmp 60), none⟩]
def d18r14 : List GOp := [
  ⟨(some 64), .mv (.tmp 0), none⟩,
  ⟨(some 65), .mv (.tmp 1), none⟩,
  ⟨(some 66), .mv (.tmp 7), none⟩,
  ⟨(some 67), .idxA 1 (.tmp 65) (.tmp 66), none⟩,
  ⟨(some 68), .load 1 false (.tmp 67), none⟩,
  ⟨(some 69), .idxA 9 (.tmp 64) (.tmp 68), none⟩,
  ⟨(some 70), .load 9 true (.tmp 69), none⟩,
  ⟨(some 8), .alloc 37 (.agg #[(.int .i64 0), (.int .i64 0), (.int .i64 0), (.int .i64 0), (.int .i64 0), (.int .i64 0), (.int .i64 0), (.int .i64 0), (.int .i64 0)]), none⟩,
  ⟨none, .store 9 (.tmp 8) (.tmp 70), none⟩]
def d18r15 : List GOp := [
  ⟨(some 71), .mv (.tmp 0), none⟩,
  ⟨(some 72), .mv (.tmp 1), none⟩,
  ⟨(some 73), .idxA 1 (.tmp 72) (.const (.int .i64 0)), none⟩,
  ⟨(some 74), .load 1 false (.tmp 73), none⟩,
  ⟨(some 75), .idxA 9 (.tmp 71) (.tmp 74), none⟩,
  ⟨(some 76), .load 9 true (.tmp 75), none⟩,
  ⟨(some 9), .alloc 37 (.agg #[(.int .i64 0), (.int .i64 0), (.int .i64 0), (.int .i64 0), (.int .i64 0), (.int .i64 0), (.int .i64 0), (.int .i64 0), (.int .i64 0)]), none⟩,
  ⟨none, .store 9 (.tmp 9) (.tmp 76), none⟩]
def d18r16 : List GOp := [
  ⟨(some 77), .load 9 true (.tmp 8), none⟩,
  ⟨(some 78), .call 24 [(.tmp 77)], none⟩,
  ⟨(some 79), .load 9 true (.tmp 9), none⟩,
  ⟨(some 80), .call 24 [(.tmp 79)], none⟩,
  ⟨(some 81), .beq true (.tmp 78) (.tmp 80), none⟩,
  ⟨(some 82), .mv (.tmp 81), none⟩,
  ⟨(some 83), .load 9 true (.tmp 8), (some (82, false))⟩,
  ⟨(some 84), .call 24 [(.tmp 83)], (some (82, false))⟩,
  ⟨(some 85), .un .not (.tmp 84), (some (82, false))⟩,
  ⟨(some 86), .mv (.tmp 85), (some (82, false))⟩,
  ⟨(some 87), .fadd 1 (.tmp 8), (some (86, true))⟩,
  ⟨(some 88), .load 1 false (.tmp 87), (some (86, true))⟩,
  ⟨(some 89), .fadd 1 (.tmp 9), (some (86, true))⟩,
  ⟨(some 90), .load 1 false (.tmp 89), (some (86, true))⟩,
  ⟨(some 91), .bin .neq (.tmp 88) (.tmp 90), (some (86, true))⟩,
  ⟨(some 92), .mv (.tmp 91), (some (86, true))⟩,
  ⟨(some 93), .fadd 2 (.tmp 8), (some (92, false))⟩,
  ⟨(some 94), .load 1 false (.tmp 93), (some (92, false))⟩,
  ⟨(some 95), .fadd 2 (.tmp 9), (some (92, false))⟩,
  ⟨(some 96), .load 1 false (.tmp 95), (some (92, false))⟩,
  ⟨(some 97), .bin .neq (.tmp 94) (.tmp 96), (some (92, false))⟩,
  ⟨(some 98), .pick (.tmp 92) (.const (.bool true)) (.tmp 97), (some (86, true))⟩,
  ⟨(some 99), .pick (.tmp 86) (.tmp 98) (.const (.bool false)), (some (82, false))⟩,
  ⟨(some 100), .pick (.tmp 82) (.const (.bool true)) (.tmp 99), none⟩]
def d18r17 : List GOp := [
  ⟨(some 4), .mv (.const (.bool false)), none⟩]
def d18r18 : List GOp := [
  ⟨(some 101), .mv (.tmp 6), none⟩,
  ⟨(some 102), .mv (.tmp 1), none⟩,
  ⟨(some 103), .mv (.tmp 7), none⟩,
  ⟨(some 104), .idxA 1 (.tmp 102) (.tmp 103), none⟩,
  ⟨(some 105), .load 1 false (.tmp 104), none⟩,
  ⟨(some 106), .mm false (.tmp 101) [(.tmp 105)], none⟩,
  ⟨(some 6), .mv (.tmp 106), none⟩]
def d18r19 : List GOp := [
  ⟨(some 62), .mv (.tmp 7), none⟩,
  ⟨(some 63), .bin .add (.tmp 62) (.const (.int .i64 1)), none⟩,
  ⟨(some 7), .mv (.tmp 63), none⟩]
def d18l20 : DC := .seq (.seq (.reg d18r13) (.cond (.tmp 61) (.skip) (.exit 2))) (.seq (.block 3 (.seq (.reg d18r14) (.seq (.reg d18r15) (.seq (.seq (.par d18r16) (.cond (.tmp 100) (.seq (.reg d18r17) (.ret)) (.skip))) (.reg d18r18))))) (.reg d18r19))
def d18r21 : List GOp := [
  ⟨(some 107), .mv (.tmp 0), none⟩,
  ⟨(some 108), .mv (.tmp 6), none⟩,
  ⟨(some 109), .idxA 9 (.tmp 107) (.tmp 108), none⟩,
  ⟨(some 110), .load 9 true (.tmp 109), none⟩,
  ⟨(some 111), .call 24 [(.tmp 110)], none⟩,
  ⟨(some 112), .un .not (.tmp 111), none⟩]
def d18r22 : List GOp := [
  ⟨(some 4), .mv (.const (.bool true)), none⟩]
def d18r23 : List GOp := [
  ⟨(some 113), .mv (.tmp 0), none⟩,
  ⟨(some 114), .call 14 [(.tmp 113)], none⟩,
  ⟨(some 10), .mv (.tmp 114), none⟩]
def d18r24 : List GOp := [
  ⟨(some 11), .mv (.const (.int .i64 0)), none⟩]
def d18r25 : List GOp := [
  ⟨(some 115), .mv (.tmp 11), none⟩,
  ⟨(some 116), .mv (.tmp 10), none⟩,
  ⟨(some 117), .len false (.tmp 116), none⟩,
  ⟨(some 118), .bin .lss (.tmp 115) (.tmp 117), none⟩]
def d18r26 : List GOp := [
  ⟨(some 12), .mv (.const (.int .i64 0)), none⟩]
def d18r27 : List GOp := [
  ⟨(some 121), .mv (.tmp 12), none⟩,
  ⟨(some 122), .mv (.tmp 10), none⟩,
  ⟨(some 123), .mv (.tmp 11), none⟩,
  ⟨(some 124), .idxA 1 (.tmp 122) (.tmp 123), none⟩,
  ⟨(some 125), .load 1 false (.tmp 124), none⟩,
  ⟨(some 126), .len false (.tmp 125), none⟩,
  ⟨(some 127), .bin .lss (.tmp 121) (.tmp 126), none⟩]
def d18r28 : List GOp := [
  ⟨(some 130), .mv (.tmp 10), none⟩,
  ⟨(some 131), .mv (.tmp 11), none⟩,
  ⟨(some 132), .idxA 1 (.tmp 130) (.tmp 131), none⟩,
  ⟨(some 133), .load 1 false (.tmp 132), none⟩,
  ⟨(some 134), .mv (.tmp 12), none⟩,
  ⟨(some 135), .idxA 1 (.tmp 133) (.tmp 134), none⟩,
  ⟨(some 136), .load 1 false (.tmp 135), none⟩,
  ⟨(some 137), .mv (.tmp 6), none⟩,
  ⟨(some 138), .bin .neq (.tmp 136) (.tmp 137), none⟩]
def d18r29 : List GOp := [
  ⟨(some 13), .mv (.const (.int .i64 0)), none⟩]
def d18r30 : List GOp := [
  ⟨(some 139), .mv (.tmp 13), none⟩,
  ⟨(some 140), .mv (.tmp 1), none⟩,
  ⟨(some 141), .len false (.tmp 140), none⟩,
  ⟨(some 142), .bin .lss (.tmp 139) (.tmp 141), none⟩]
def d18r31 : List GOp := [
  ⟨(some 145), .mv (.tmp 12), none⟩,
  ⟨(some 146), .mv (.tmp 13), none⟩,
  ⟨(some 147), .bin .add (.tmp 145) (.tmp 146), none⟩,
  ⟨(some 148), .mv (.tmp 10), none⟩,
  ⟨(some 149), .mv (.tmp 11), none⟩,
  ⟨(some 150), .idxA 1 (.tmp 148) (.tmp 149), none⟩,
  ⟨(some 151), .load 1 false (.tmp 150), none⟩,
  ⟨(some 152), .len false (.tmp 151), none⟩,
  ⟨(some 153), .bin .geq (.tmp 147) (.tmp 152), none⟩,
  ⟨(some 154), .mv (.tmp 153), none⟩,
  ⟨(some 155), .mv (.tmp 1), (some (154, false))⟩,
  ⟨(some 156), .mv (.tmp 10), (some (154, false))⟩,
  ⟨(some 157), .mv (.tmp 11), (some (154, false))⟩,
  ⟨(some 158), .idxA 1 (.tmp 156) (.tmp 157), (some (154, false))⟩,
  ⟨(some 159), .load 1 false (.tmp 158), (some (154, false))⟩,
  ⟨(some 160), .mv (.tmp 12), (some (154, false))⟩,
  ⟨(some 161), .mv (.tmp 13), (some (154, false))⟩,
  ⟨(some 162), .bin .add (.tmp 160) (.tmp 161), (some (154, false))⟩,
  ⟨(some 163), .idxA 1 (.tmp 159) (.tmp 162), (some (154, false))⟩,
  ⟨(some 164), .load 1 false (.tmp 163), (some (154, false))⟩,
  ⟨(some 165), .call 27 [(.tmp 155), (.tmp 164)], (some (154, false))⟩,
  ⟨(some 166), .un .not (.tmp 165), (some (154, false))⟩,
  ⟨(some 167), .pick (.tmp 154) (.const (.bool true)) (.tmp 166), none⟩]
def d18r32 : List GOp := [
  ⟨(some 4), .mv (.const (.bool false)), none⟩]
def d18r33 : List GOp := [
  ⟨(some 143), .mv (.tmp 13), none⟩,
  ⟨(some 144), .bin .add (.tmp 143) (.const (.int .i64 1)), none⟩,
  ⟨(some 13), .mv (.tmp 144), none⟩]
def d18l34 : DC := .seq (.seq (.reg d18r30) (.cond (.tmp 142) (.skip) (.exit 8))) (.seq (.block 9 (.seq (.reg d18r31) (.cond (.tmp 167) (.seq (.reg d18r32) (.ret)) (.skip)))) (.reg d18r33))
def d18r35 : List GOp := [
  ⟨(some 4), .mv (.const (.bool true)), none⟩]
def d18r36 : List GOp := [
  ⟨(some 128), .mv (.tmp 12), none⟩,
  ⟨(some 129), .bin .add (.tmp 128) (.const (.int .i64 1)), none⟩,
  ⟨(some 12), .mv (.tmp 129), none⟩]
def d18l37 : DC := .seq (.seq (.reg d18r27) (.cond (.tmp 127) (.skip) (.exit 6))) (.seq (.block 7 (.seq (.seq (.reg d18r28) (.cond (.tmp 138) (.exit 7) (.skip))) (.seq (.seq (.reg d18r29) (.block 8 (.loop d18l34))) (.seq (.reg d18r35) (.ret))))) (.reg d18r36))
def d18r38 : List GOp := [
  ⟨(some 119), .mv (.tmp 11), none⟩,
  ⟨(some 120), .bin .add (.tmp 119) (.const (.int .i64 1)), none⟩,
  ⟨(some 11), .mv (.tmp 120), none⟩]
def d18l39 : DC := .seq (.seq (.reg d18r25) (.cond (.tmp 118) (.skip) (.exit 4))) (.seq (.block 5 (.seq (.reg d18r26) (.block 6 (.loop d18l37)))) (.reg d18r38))
def d18r40 : List GOp := [
  ⟨(some 4), .mv (.const (.bool false)), none⟩]
def d18c : DC := .seq (.reg d18r0) (.seq (.seq (.reg d18r1) (.cond (.tmp 21) (.seq (.reg d18r2) (.ret)) (.skip))) (.seq (.seq (.reg d18r3) (.block 0 (.loop d18l8))) (.seq (.seq (.reg d18r9) (.cond (.tmp 54) (.seq (.reg d18r10) (.ret)) (.skip))) (.seq (.reg d18r11) (.seq (.seq (.reg d18r12) (.block 2 (.loop d18l20))) (.seq (.seq (.reg d18r21) (.cond (.tmp 112) (.seq (.reg d18r22) (.ret)) (.skip))) (.seq (.reg d18r23) (.seq (.seq (.reg d18r24) (.block 4 (.loop d18l39))) (.seq (.reg d18r40) (.ret))))))))))
def d18 : DFn := ⟨168, d18c, [.tmp 4]⟩
theorem d18_ok : compF Try.prog 18 = some d18 := by kernel_rfl
/- foyer/foyerref11.Ints -/
def d19r0 : List GOp := [
  ⟨(some 4), .mv (.const (.bool false)), none⟩]
def d19r1 : List GOp := [
  ⟨(some 6), .mv (.tmp 0), none⟩,
  ⟨(some 7), .len false (.tmp 6), none⟩,
  ⟨(some 8), .mv (.tmp 1), none⟩,
  ⟨(some 9), .len false (.tmp 8), none⟩,
  ⟨(some 10), .bin .neq (.tmp 7) (.tmp 9), none⟩]
def d19r2 : List GOp := [
  ⟨(some 4), .mv (.const (.bool false)), none⟩]
def d19r3 : List GOp := [
  ⟨(some 5), .mv (.const (.int .i64 0)), none⟩]
def d19r4 : List GOp := [
  ⟨(some 11), .mv (.tmp 5), none⟩,
  ⟨(some 12), .mv (.tmp 0), none⟩,
  ⟨(some 13), .len false (.tmp 12), none⟩,
  ⟨(some 14), .bin .lss (.tmp 11) (.tmp 13), none⟩]
def d19r5 : List GOp := [
  ⟨(some 17), .mv (.tmp 0), none⟩,
  ⟨(some 18), .mv (.tmp 5), none⟩,
  ⟨(some 19), .idxA 1 (.tmp 17) (.tmp 18), none⟩,
  ⟨(some 20), .load 1 false (.tmp 19), none⟩,
  ⟨(some 21), .mv (.tmp 1), none⟩,
  ⟨(some 22), .mv (.tmp 5), none⟩,
  ⟨(some 23), .idxA 1 (.tmp 21) (.tmp 22), none⟩,
  ⟨(some 24), .load 1 false (.tmp 23), none⟩,
  ⟨(some 25), .bin .neq (.tmp 20) (.tmp 24), none⟩]
def d19r6 : List GOp := [
  ⟨(some 4), .mv (.const (.bool false)), none⟩]
def d19r7 : List GOp := [
  ⟨(some 15), .mv (.tmp 5), none⟩,
  ⟨(some 16), .bin .add (.tmp 15) (.const (.int .i64 1)), none⟩,
  ⟨(some 5), .mv (.tmp 16), none⟩]
def d19l8 : DC := .seq (.seq (.reg d19r4) (.cond (.tmp 14) (.skip) (.exit 0))) (.seq (.block 1 (.seq (.par d19r5) (.cond (.tmp 25) (.seq (.reg d19r6) (.ret)) (.skip)))) (.reg d19r7))
def d19r9 : List GOp := [
  ⟨(some 4), .mv (.const (.bool true)), none⟩]
def d19c : DC := .seq (.reg d19r0) (.seq (.seq (.reg d19r1) (.cond (.tmp 10) (.seq (.reg d19r2) (.ret)) (.skip))) (.seq (.seq (.reg d19r3) (.block 0 (.loop d19l8))) (.seq (.reg d19r9) (.ret))))
def d19 : DFn := ⟨26, d19c, [.tmp 4]⟩
theorem d19_ok : compF Try.prog 19 = some d19 := by kernel_rfl
/- NOT SERVED 20 "foyer/runs.Singles": op ('Op.makeMap', 62) -/
/- foyer/foyerref11.Singles -/
def d21r0 : List GOp := [
  ⟨(some 6), .mv (.const (.slice none 0 0)), none⟩]
def d21r1 : List GOp := [
  ⟨(some 11), .mv (.tmp 0), none⟩,
  ⟨(some 12), .mv (.tmp 1), none⟩,
  ⟨(some 13), .call 40 [(.tmp 11), (.tmp 12)], none⟩,
  ⟨(some 7), .mv (.tmp 13), none⟩]
def d21r2 : List GOp := [
  ⟨(some 14), .mv (.tmp 0), none⟩,
  ⟨(some 15), .mv (.tmp 0), none⟩,
  ⟨(some 16), .mv (.tmp 1), none⟩,
  ⟨(some 17), .mv (.tmp 2), none⟩,
  ⟨(some 18), .call 26 [(.tmp 15), (.tmp 16), (.tmp 17)], none⟩,
  ⟨(some 19), .call 40 [(.tmp 14), (.tmp 18)], none⟩,
  ⟨(some 8), .mv (.tmp 19), none⟩]
def d21r3 : List GOp := [
  ⟨(some 9), .mv (.const (.slice none 0 0)), none⟩]
def d21r4 : List GOp := [
  ⟨(some 10), .mv (.const (.int .i64 0)), none⟩]
def d21r5 : List GOp := [
  ⟨(some 20), .mv (.tmp 10), none⟩,
  ⟨(some 21), .mv (.tmp 8), none⟩,
  ⟨(some 22), .len false (.tmp 21), none⟩,
  ⟨(some 23), .bin .lss (.tmp 20) (.tmp 22), none⟩]
def d21r6 : List GOp := [
  ⟨(some 26), .mv (.tmp 7), none⟩,
  ⟨(some 27), .mv (.tmp 8), none⟩,
  ⟨(some 28), .mv (.tmp 10), none⟩,
  ⟨(some 29), .idxA 1 (.tmp 27) (.tmp 28), none⟩,
  ⟨(some 30), .load 1 false (.tmp 29), none⟩,
  ⟨(some 31), .call 27 [(.tmp 26), (.tmp 30)], none⟩,
  ⟨(some 32), .un .not (.tmp 31), none⟩]
def d21r7 : List GOp := [
  ⟨(some 33), .mv (.tmp 9), none⟩,
  ⟨(some 34), .mv (.tmp 8), none⟩,
  ⟨(some 35), .mv (.tmp 10), none⟩,
  ⟨(some 36), .idxA 1 (.tmp 34) (.tmp 35), none⟩,
  ⟨(some 37), .load 1 false (.tmp 36), none⟩,
  ⟨(some 38), .bslice 3 1 1 (.int .i64 0) [(0, (.tmp 37))], none⟩,
  ⟨(some 39), .app 3 1 8 (.int .i64 0) (.tmp 33) (.tmp 38), none⟩,
  ⟨(some 9), .mv (.tmp 39), none⟩]
def d21r8 : List GOp := [
  ⟨(some 24), .mv (.tmp 10), none⟩,
  ⟨(some 25), .bin .add (.tmp 24) (.const (.int .i64 1)), none⟩,
  ⟨(some 10), .mv (.tmp 25), none⟩]
def d21l9 : DC := .seq (.seq (.reg d21r5) (.cond (.tmp 23) (.skip) (.exit 0))) (.seq (.block 1 (.seq (.reg d21r6) (.cond (.tmp 32) (.reg d21r7) (.skip)))) (.reg d21r8))
def d21r10 : List GOp := [
  ⟨(some 40), .mv (.tmp 9), none⟩,
  ⟨(some 6), .mv (.tmp 40), none⟩]
def d21c : DC := .seq (.reg d21r0) (.seq (.reg d21r1) (.seq (.reg d21r2) (.seq (.reg d21r3) (.seq (.seq (.reg d21r4) (.block 0 (.loop d21l9))) (.seq (.reg d21r10) (.ret))))))
def d21 : DFn := ⟨41, d21c, [.tmp 6]⟩
theorem d21_ok : compF Try.prog 21 = some d21 := by kernel_rfl
/- foyer/foyerref11.Ordered -/
def d22r0 : List GOp := [
  ⟨(some 2), .mv (.const (.bool false)), none⟩]
def d22r1 : List GOp := [
  ⟨(some 3), .mv (.const (.int .i64 (-1))), none⟩]
def d22r2 : List GOp := [
  ⟨(some 4), .mv (.const (.int .i64 0)), none⟩]
def d22r3 : List GOp := [
  ⟨(some 5), .mv (.tmp 4), none⟩,
  ⟨(some 6), .mv (.tmp 0), none⟩,
  ⟨(some 7), .len false (.tmp 6), none⟩,
  ⟨(some 8), .bin .lss (.tmp 5) (.tmp 7), none⟩]
def d22r4 : List GOp := [
  ⟨(some 11), .mv (.tmp 0), none⟩,
  ⟨(some 12), .mv (.tmp 4), none⟩,
  ⟨(some 13), .idxA 9 (.tmp 11) (.tmp 12), none⟩,
  ⟨(some 14), .load 9 true (.tmp 13), none⟩,
  ⟨(some 15), .call 24 [(.tmp 14)], none⟩,
  ⟨(some 16), .un .not (.tmp 15), none⟩]
def d22r5 : List GOp := [
  ⟨(some 17), .mv (.tmp 3), none⟩,
  ⟨(some 18), .bin .geq (.tmp 17) (.const (.int .i64 0)), none⟩,
  ⟨(some 19), .mv (.tmp 18), none⟩,
  ⟨(some 20), .mv (.tmp 0), (some (19, true))⟩,
  ⟨(some 21), .mv (.tmp 3), (some (19, true))⟩,
  ⟨(some 22), .idxA 9 (.tmp 20) (.tmp 21), (some (19, true))⟩,
  ⟨(some 23), .load 9 true (.tmp 22), (some (19, true))⟩,
  ⟨(some 24), .mv (.tmp 0), (some (19, true))⟩,
  ⟨(some 25), .mv (.tmp 4), (some (19, true))⟩,
  ⟨(some 26), .idxA 9 (.tmp 24) (.tmp 25), (some (19, true))⟩,
  ⟨(some 27), .load 9 true (.tmp 26), (some (19, true))⟩,
  ⟨(some 28), .call 41 [(.tmp 23), (.tmp 27)], (some (19, true))⟩,
  ⟨(some 29), .un .not (.tmp 28), (some (19, true))⟩,
  ⟨(some 30), .pick (.tmp 19) (.tmp 29) (.const (.bool false)), none⟩]
def d22r6 : List GOp := [
  ⟨(some 2), .mv (.const (.bool false)), none⟩]
def d22r7 : List GOp := [
  ⟨(some 31), .mv (.tmp 4), none⟩,
  ⟨(some 3), .mv (.tmp 31), none⟩]
def d22r8 : List GOp := [
  ⟨(some 9), .mv (.tmp 4), none⟩,
  ⟨(some 10), .bin .add (.tmp 9) (.const (.int .i64 1)), none⟩,
  ⟨(some 4), .mv (.tmp 10), none⟩]
def d22l9 : DC := .seq (.seq (.reg d22r3) (.cond (.tmp 8) (.skip) (.exit 0))) (.seq (.block 1 (.seq (.seq (.reg d22r4) (.cond (.tmp 16) (.exit 1) (.skip))) (.seq (.seq (.par d22r5) (.cond (.tmp 30) (.seq (.reg d22r6) (.ret)) (.skip))) (.reg d22r7)))) (.reg d22r8))
def d22r10 : List GOp := [
  ⟨(some 2), .mv (.const (.bool true)), none⟩]
def d22c : DC := .seq (.reg d22r0) (.seq (.reg d22r1) (.seq (.seq (.reg d22r2) (.block 0 (.loop d22l9))) (.seq (.reg d22r10) (.ret))))
def d22 : DFn := ⟨32, d22c, [.tmp 2]⟩
theorem d22_ok : compF Try.prog 22 = some d22 := by kernel_rfl
/- foyer/foyerref11.Next -/
def d23r0 : List GOp := [
  ⟨(some 2), .box 37 (.tmp 0), none⟩,
  ⟨(some 3), .box 37 (.tmp 1), none⟩,
  ⟨(some 4), .mv (.const (.bool false)), none⟩]
def d23r1 : List GOp := [
  ⟨(some 5), .fadd 3 (.tmp 2), none⟩,
  ⟨(some 6), .load 1 false (.tmp 5), none⟩,
  ⟨(some 7), .bin .geq (.tmp 6) (.const (.int .i64 0)), none⟩,
  ⟨(some 8), .mv (.tmp 7), none⟩,
  ⟨(some 9), .fadd 1 (.tmp 2), (some (8, true))⟩,
  ⟨(some 10), .load 1 false (.tmp 9), (some (8, true))⟩,
  ⟨(some 11), .fadd 1 (.tmp 3), (some (8, true))⟩,
  ⟨(some 12), .load 1 false (.tmp 11), (some (8, true))⟩,
  ⟨(some 13), .bin .eql (.tmp 10) (.tmp 12), (some (8, true))⟩,
  ⟨(some 14), .pick (.tmp 8) (.tmp 13) (.const (.bool false)), none⟩,
  ⟨(some 15), .mv (.tmp 14), none⟩,
  ⟨(some 16), .fadd 2 (.tmp 2), (some (15, true))⟩,
  ⟨(some 17), .load 1 false (.tmp 16), (some (15, true))⟩,
  ⟨(some 18), .fadd 2 (.tmp 3), (some (15, true))⟩,
  ⟨(some 19), .load 1 false (.tmp 18), (some (15, true))⟩,
  ⟨(some 20), .bin .eql (.tmp 17) (.tmp 19), (some (15, true))⟩,
  ⟨(some 21), .pick (.tmp 15) (.tmp 20) (.const (.bool false)), none⟩,
  ⟨(some 22), .mv (.tmp 21), none⟩,
  ⟨(some 23), .fadd 3 (.tmp 2), (some (22, true))⟩,
  ⟨(some 24), .load 1 false (.tmp 23), (some (22, true))⟩,
  ⟨(some 25), .fadd 3 (.tmp 3), (some (22, true))⟩,
  ⟨(some 26), .load 1 false (.tmp 25), (some (22, true))⟩,
  ⟨(some 27), .bin .eql (.tmp 24) (.tmp 26), (some (22, true))⟩,
  ⟨(some 28), .pick (.tmp 22) (.tmp 27) (.const (.bool false)), none⟩,
  ⟨(some 29), .mv (.tmp 28), none⟩,
  ⟨(some 30), .fadd 4 (.tmp 2), (some (29, true))⟩,
  ⟨(some 31), .load 1 false (.tmp 30), (some (29, true))⟩,
  ⟨(some 32), .fadd 4 (.tmp 3), (some (29, true))⟩,
  ⟨(some 33), .load 1 false (.tmp 32), (some (29, true))⟩,
  ⟨(some 34), .bin .lss (.tmp 31) (.tmp 33), (some (29, true))⟩,
  ⟨(some 35), .pick (.tmp 29) (.tmp 34) (.const (.bool false)), none⟩,
  ⟨(some 36), .mv (.tmp 35), none⟩,
  ⟨(some 37), .fadd 4 (.tmp 3), (some (36, true))⟩,
  ⟨(some 38), .load 1 false (.tmp 37), (some (36, true))⟩,
  ⟨(some 39), .fadd 4 (.tmp 2), (some (36, true))⟩,
  ⟨(some 40), .load 1 false (.tmp 39), (some (36, true))⟩,
  ⟨(some 41), .bin .add (.tmp 40) (.const (.int .i64 1)), (some (36, true))⟩,
  ⟨(some 42), .bin .eql (.tmp 38) (.tmp 41), (some (36, true))⟩,
  ⟨(some 43), .pick (.tmp 36) (.tmp 42) (.const (.bool false)), none⟩,
  ⟨(some 4), .mv (.tmp 43), none⟩]
def d23c : DC := .seq (.reg d23r0) (.seq (.reg d23r1) (.ret))
def d23 : DFn := ⟨44, d23c, [.tmp 4]⟩
theorem d23_ok : compF Try.prog 23 = some d23 := by kernel_rfl
/- foyer/foyerref11.Seat -/
def d24r0 : List GOp := [
  ⟨(some 1), .box 37 (.tmp 0), none⟩,
  ⟨(some 2), .mv (.const (.bool false)), none⟩]
def d24r1 : List GOp := [
  ⟨(some 3), .fadd 3 (.tmp 1), none⟩,
  ⟨(some 4), .load 1 false (.tmp 3), none⟩,
  ⟨(some 5), .bin .geq (.tmp 4) (.const (.int .i64 0)), none⟩,
  ⟨(some 2), .mv (.tmp 5), none⟩]
def d24c : DC := .seq (.reg d24r0) (.seq (.reg d24r1) (.ret))
def d24 : DFn := ⟨6, d24c, [.tmp 2]⟩
theorem d24_ok : compF Try.prog 24 = some d24 := by kernel_rfl
/- foyer/foyerref11.Taken -/
def d25r0 : List GOp := [
  ⟨(some 4), .mv (.const (.bool false)), none⟩]
def d25r1 : List GOp := [
  ⟨(some 5), .mv (.tmp 1), none⟩,
  ⟨(some 6), .bin .geq (.tmp 5) (.const (.int .i64 0)), none⟩,
  ⟨(some 7), .mv (.tmp 6), none⟩,
  ⟨(some 8), .mv (.tmp 1), (some (7, true))⟩,
  ⟨(some 9), .mv (.tmp 0), (some (7, true))⟩,
  ⟨(some 10), .len false (.tmp 9), (some (7, true))⟩,
  ⟨(some 11), .bin .lss (.tmp 8) (.tmp 10), (some (7, true))⟩,
  ⟨(some 12), .pick (.tmp 7) (.tmp 11) (.const (.bool false)), none⟩,
  ⟨(some 13), .mv (.tmp 12), none⟩,
  ⟨(some 14), .mv (.tmp 0), (some (13, true))⟩,
  ⟨(some 15), .mv (.tmp 1), (some (13, true))⟩,
  ⟨(some 16), .idxA 1 (.tmp 14) (.tmp 15), (some (13, true))⟩,
  ⟨(some 17), .load 1 false (.tmp 16), (some (13, true))⟩,
  ⟨(some 18), .pick (.tmp 13) (.tmp 17) (.const (.bool false)), none⟩,
  ⟨(some 4), .mv (.tmp 18), none⟩]
def d25c : DC := .seq (.reg d25r0) (.seq (.reg d25r1) (.ret))
def d25 : DFn := ⟨19, d25c, [.tmp 4]⟩
theorem d25_ok : compF Try.prog 25 = some d25 := by kernel_rfl
/- foyer/foyerref11.After -/
def d26r0 : List GOp := [
  ⟨(some 6), .mv (.const (.slice none 0 0)), none⟩]
def d26r1 : List GOp := [
  ⟨(some 9), .mv (.tmp 0), none⟩,
  ⟨(some 10), .len false (.tmp 9), none⟩,
  ⟨(some 11), .mks 4 1 1 (.bool false) (.tmp 10) (.tmp 10), none⟩,
  ⟨(some 7), .mv (.tmp 11), none⟩]
def d26r2 : List GOp := [
  ⟨(some 8), .mv (.const (.int .i64 0)), none⟩]
def d26r3 : List GOp := [
  ⟨(some 12), .mv (.tmp 8), none⟩,
  ⟨(some 13), .mv (.tmp 0), none⟩,
  ⟨(some 14), .len false (.tmp 13), none⟩,
  ⟨(some 15), .bin .lss (.tmp 12) (.tmp 14), none⟩]
def d26r4 : List GOp := [
  ⟨(some 18), .mv (.tmp 7), none⟩,
  ⟨(some 19), .mv (.tmp 8), none⟩,
  ⟨(some 20), .mv (.tmp 1), none⟩,
  ⟨(some 21), .mv (.tmp 8), none⟩,
  ⟨(some 22), .call 25 [(.tmp 20), (.tmp 21)], none⟩,
  ⟨(some 23), .mv (.tmp 22), none⟩,
  ⟨(some 24), .mv (.tmp 2), (some (23, false))⟩,
  ⟨(some 25), .mv (.tmp 8), (some (23, false))⟩,
  ⟨(some 26), .call 27 [(.tmp 24), (.tmp 25)], (some (23, false))⟩,
  ⟨(some 27), .pick (.tmp 23) (.const (.bool true)) (.tmp 26), none⟩,
  ⟨(some 28), .idxA 1 (.tmp 18) (.tmp 19), none⟩,
  ⟨none, .store 1 (.tmp 28) (.tmp 27), none⟩]
def d26r5 : List GOp := [
  ⟨(some 16), .mv (.tmp 8), none⟩,
  ⟨(some 17), .bin .add (.tmp 16) (.const (.int .i64 1)), none⟩,
  ⟨(some 8), .mv (.tmp 17), none⟩]
def d26l6 : DC := .seq (.seq (.reg d26r3) (.cond (.tmp 15) (.skip) (.exit 0))) (.seq (.block 1 (.reg d26r4)) (.reg d26r5))
def d26r7 : List GOp := [
  ⟨(some 29), .mv (.tmp 7), none⟩,
  ⟨(some 6), .mv (.tmp 29), none⟩]
def d26c : DC := .seq (.reg d26r0) (.seq (.reg d26r1) (.seq (.seq (.reg d26r2) (.block 0 (.loop d26l6))) (.seq (.reg d26r7) (.ret))))
def d26 : DFn := ⟨30, d26c, [.tmp 6]⟩
theorem d26_ok : compF Try.prog 26 = some d26 := by kernel_rfl
/- foyer/foyerref11.In -/
def d27r0 : List GOp := [
  ⟨(some 4), .mv (.const (.bool false)), none⟩]
def d27r1 : List GOp := [
  ⟨(some 5), .mv (.const (.int .i64 0)), none⟩]
def d27r2 : List GOp := [
  ⟨(some 6), .mv (.tmp 5), none⟩,
  ⟨(some 7), .mv (.tmp 0), none⟩,
  ⟨(some 8), .len false (.tmp 7), none⟩,
  ⟨(some 9), .bin .lss (.tmp 6) (.tmp 8), none⟩]
def d27r3 : List GOp := [
  ⟨(some 12), .mv (.tmp 0), none⟩,
  ⟨(some 13), .mv (.tmp 5), none⟩,
  ⟨(some 14), .idxA 1 (.tmp 12) (.tmp 13), none⟩,
  ⟨(some 15), .load 1 false (.tmp 14), none⟩,
  ⟨(some 16), .mv (.tmp 1), none⟩,
  ⟨(some 17), .bin .eql (.tmp 15) (.tmp 16), none⟩]
def d27r4 : List GOp := [
  ⟨(some 4), .mv (.const (.bool true)), none⟩]
def d27r5 : List GOp := [
  ⟨(some 10), .mv (.tmp 5), none⟩,
  ⟨(some 11), .bin .add (.tmp 10) (.const (.int .i64 1)), none⟩,
  ⟨(some 5), .mv (.tmp 11), none⟩]
def d27l6 : DC := .seq (.seq (.reg d27r2) (.cond (.tmp 9) (.skip) (.exit 0))) (.seq (.block 1 (.seq (.reg d27r3) (.cond (.tmp 17) (.seq (.reg d27r4) (.ret)) (.skip)))) (.reg d27r5))
def d27r7 : List GOp := [
  ⟨(some 4), .mv (.const (.bool false)), none⟩]
def d27c : DC := .seq (.reg d27r0) (.seq (.seq (.reg d27r1) (.block 0 (.loop d27l6))) (.seq (.reg d27r7) (.ret)))
def d27 : DFn := ⟨18, d27c, [.tmp 4]⟩
theorem d27_ok : compF Try.prog 27 = some d27 := by kernel_rfl
/- foyer/foyerlaw11.example -/
def d28r0 : List GOp := [
  ⟨(some 0), .mv (.const (.slice none 0 0)), none⟩]
def d28r1 : List GOp := [
  ⟨(some 1), .build (.agg #[(.int .i64 0), (.int .i64 0), (.int .i64 0), (.int .i64 0), (.int .i64 0), (.int .i64 0), (.int .i64 0), (.int .i64 0), (.int .i64 0)]) [((4, 1), (.const (.int .i64 1)))], none⟩,
  ⟨(some 2), .build (.agg #[(.int .i64 0), (.int .i64 0), (.int .i64 0), (.int .i64 0), (.int .i64 0), (.int .i64 0), (.int .i64 0), (.int .i64 0), (.int .i64 0)]) [((4, 1), (.const (.int .i64 2)))], none⟩,
  ⟨(some 3), .build (.agg #[(.int .i64 0), (.int .i64 0), (.int .i64 0), (.int .i64 0), (.int .i64 0), (.int .i64 0), (.int .i64 0), (.int .i64 0), (.int .i64 0)]) [((4, 1), (.const (.int .i64 3)))], none⟩,
  ⟨(some 4), .build (.agg #[(.int .i64 0), (.int .i64 0), (.int .i64 0), (.int .i64 0), (.int .i64 0), (.int .i64 0), (.int .i64 0), (.int .i64 0), (.int .i64 0)]) [((4, 1), (.const (.int .i64 5)))], none⟩,
  ⟨(some 5), .build (.agg #[(.int .i64 0), (.int .i64 0), (.int .i64 0), (.int .i64 0), (.int .i64 0), (.int .i64 0), (.int .i64 0), (.int .i64 0), (.int .i64 0)]) [((4, 1), (.const (.int .i64 6)))], none⟩,
  ⟨(some 6), .bslice 37 9 5 (.agg #[(.int .i64 0), (.int .i64 0), (.int .i64 0), (.int .i64 0), (.int .i64 0), (.int .i64 0), (.int .i64 0), (.int .i64 0), (.int .i64 0)]) [(0, (.tmp 1)), (1, (.tmp 2)), (2, (.tmp 3)), (3, (.tmp 4)), (4, (.tmp 5))], none⟩,
  ⟨(some 0), .mv (.tmp 6), none⟩]
def d28c : DC := .seq (.reg d28r0) (.seq (.reg d28r1) (.ret))
def d28 : DFn := ⟨7, d28c, [.tmp 0]⟩
theorem d28_ok : compF Try.prog 28 = some d28 := by kernel_rfl
/- foyer/runs.seats -/
def d29r0 : List GOp := [
  ⟨(some 2), .mv (.const (.slice none 0 0)), none⟩,
  ⟨(some 3), .mv (.const (.bool false)), none⟩]
def d29r1 : List GOp := [
  ⟨(some 4), .mv (.const (.slice none 0 0)), none⟩]
def d29r2 : List GOp := [
  ⟨(some 8), .mv (.tmp 0), none⟩,
  ⟨(some 9), .len false (.tmp 8), none⟩,
  ⟨(some 10), .mv (.const (.int .i64 0)), none⟩]
def d29r3 : List GOp := [
  ⟨(some 11), .bin .lss (.tmp 10) (.tmp 9), none⟩]
def d29r4 : List GOp := [
  ⟨(some 12), .mv (.tmp 10), none⟩,
  ⟨(some 13), .idxA 9 (.tmp 8) (.tmp 10), none⟩,
  ⟨(some 14), .load 9 true (.tmp 13), none⟩,
  ⟨(some 6), .alloc 37 (.agg #[(.int .i64 0), (.int .i64 0), (.int .i64 0), (.int .i64 0), (.int .i64 0), (.int .i64 0), (.int .i64 0), (.int .i64 0), (.int .i64 0)]), none⟩,
  ⟨(some 5), .mv (.tmp 12), none⟩,
  ⟨none, .store 9 (.tmp 6) (.tmp 14), none⟩]
def d29r5 : List GOp := [
  ⟨(some 15), .fadd 3 (.tmp 6), none⟩,
  ⟨(some 16), .load 1 false (.tmp 15), none⟩,
  ⟨(some 17), .bin .geq (.tmp 16) (.const (.int .i64 0)), none⟩]
def d29r6 : List GOp := [
  ⟨(some 18), .mv (.tmp 4), none⟩,
  ⟨(some 19), .load 9 true (.tmp 6), none⟩,
  ⟨(some 20), .mv (.tmp 5), none⟩,
  ⟨(some 21), .build (.agg #[(.int .i64 0), (.int .i64 0), (.int .i64 0), (.int .i64 0), (.int .i64 0), (.int .i64 0), (.int .i64 0), (.int .i64 0), (.int .i64 0), (.int .i64 0)]) [((0, 9), (.tmp 19)), ((9, 1), (.tmp 20))], none⟩,
  ⟨(some 22), .bslice 52 10 1 (.agg #[(.int .i64 0), (.int .i64 0), (.int .i64 0), (.int .i64 0), (.int .i64 0), (.int .i64 0), (.int .i64 0), (.int .i64 0), (.int .i64 0), (.int .i64 0)]) [(0, (.tmp 21))], none⟩,
  ⟨(some 23), .app 52 10 80 (.agg #[(.int .i64 0), (.int .i64 0), (.int .i64 0), (.int .i64 0), (.int .i64 0), (.int .i64 0), (.int .i64 0), (.int .i64 0), (.int .i64 0), (.int .i64 0)]) (.tmp 18) (.tmp 22), none⟩,
  ⟨(some 4), .mv (.tmp 23), none⟩]
def d29r7 : List GOp := [
  ⟨(some 24), .bin .add (.tmp 10) (.const (.int .i64 1)), none⟩,
  ⟨(some 10), .mv (.tmp 24), none⟩]
def d29l8 : DC := .seq (.reg d29r3) (.seq (.cond (.tmp 11) (.skip) (.exit 0)) (.seq (.block 1 (.seq (.reg d29r4) (.seq (.reg d29r5) (.cond (.tmp 17) (.reg d29r6) (.skip))))) (.reg d29r7)))
def d29r9 : List GOp := [
  ⟨(some 7), .mv (.const (.int .i64 1)), none⟩]
def d29r10 : List GOp := [
  ⟨(some 25), .mv (.tmp 7), none⟩,
  ⟨(some 26), .mv (.tmp 4), none⟩,
  ⟨(some 27), .len false (.tmp 26), none⟩,
  ⟨(some 28), .bin .lss (.tmp 25) (.tmp 27), none⟩]
def d29r11 : List GOp := [
  ⟨(some 31), .mv (.tmp 4), none⟩,
  ⟨(some 32), .mv (.tmp 7), none⟩,
  ⟨(some 33), .bin .sub (.tmp 32) (.const (.int .i64 1)), none⟩,
  ⟨(some 34), .idxA 10 (.tmp 31) (.tmp 33), none⟩,
  ⟨(some 35), .load 10 true (.tmp 34), none⟩,
  ⟨(some 36), .mv (.tmp 4), none⟩,
  ⟨(some 37), .mv (.tmp 7), none⟩,
  ⟨(some 38), .idxA 10 (.tmp 36) (.tmp 37), none⟩,
  ⟨(some 39), .load 10 true (.tmp 38), none⟩,
  ⟨(some 40), .call 42 [(.tmp 35), (.tmp 39)], none⟩,
  ⟨(some 41), .bin .geq (.tmp 40) (.const (.int .i64 0)), none⟩]
def d29r12 : List GOp := [
  ⟨(some 2), .mv (.const (.slice none 0 0)), none⟩,
  ⟨(some 3), .mv (.const (.bool false)), none⟩]
def d29r13 : List GOp := [
  ⟨(some 29), .mv (.tmp 7), none⟩,
  ⟨(some 30), .bin .add (.tmp 29) (.const (.int .i64 1)), none⟩,
  ⟨(some 7), .mv (.tmp 30), none⟩]
def d29l14 : DC := .seq (.seq (.reg d29r10) (.cond (.tmp 28) (.skip) (.exit 2))) (.seq (.block 3 (.seq (.par d29r11) (.cond (.tmp 41) (.seq (.reg d29r12) (.ret)) (.skip)))) (.reg d29r13))
def d29r15 : List GOp := [
  ⟨(some 42), .mv (.tmp 4), none⟩,
  ⟨(some 2), .mv (.tmp 42), none⟩,
  ⟨(some 3), .mv (.const (.bool true)), none⟩]
def d29c : DC := .seq (.reg d29r0) (.seq (.reg d29r1) (.seq (.seq (.reg d29r2) (.block 0 (.loop d29l8))) (.seq (.seq (.reg d29r9) (.block 2 (.loop d29l14))) (.seq (.reg d29r15) (.ret)))))
def d29 : DFn := ⟨43, d29c, [.tmp 2, .tmp 3]⟩
theorem d29_ok : compF Try.prog 29 = some d29 := by kernel_rfl
/- NOT SERVED 30 "slices.DeleteFunc[[]foyer/runs.seat,foyer/runs.seat]": builtin clear -/
/- foyer/runs.Free$1 -/
def d31r0 : List GOp := [
  ⟨(some 2), .box 52 (.tmp 0), none⟩,
  ⟨(some 3), .mv (.const (.bool false)), none⟩]
def d31r1 : List GOp := [
  ⟨(some 4), .load 1 false (.tmp 1), none⟩,
  ⟨(some 5), .fadd 9 (.tmp 2), none⟩,
  ⟨(some 6), .load 1 false (.tmp 5), none⟩,
  ⟨(some 7), .call 32 [(.tmp 4), (.tmp 6)], none⟩,
  ⟨(some 3), .mv (.tmp 7), none⟩]
def d31c : DC := .seq (.reg d31r0) (.seq (.reg d31r1) (.ret))
def d31 : DFn := ⟨8, d31c, [.tmp 3]⟩
theorem d31_ok : compF Try.prog 31 = some d31 := by kernel_rfl
/- foyer/runs.is -/
def d32r0 : List GOp := [
  ⟨(some 4), .mv (.const (.bool false)), none⟩]
def d32r1 : List GOp := [
  ⟨(some 5), .mv (.tmp 1), none⟩,
  ⟨(some 6), .mv (.tmp 0), none⟩,
  ⟨(some 7), .len false (.tmp 6), none⟩,
  ⟨(some 8), .bin .lss (.tmp 5) (.tmp 7), none⟩,
  ⟨(some 9), .mv (.tmp 8), none⟩,
  ⟨(some 10), .mv (.tmp 0), (some (9, true))⟩,
  ⟨(some 11), .mv (.tmp 1), (some (9, true))⟩,
  ⟨(some 12), .idxA 1 (.tmp 10) (.tmp 11), (some (9, true))⟩,
  ⟨(some 13), .load 1 false (.tmp 12), (some (9, true))⟩,
  ⟨(some 14), .pick (.tmp 9) (.tmp 13) (.const (.bool false)), none⟩,
  ⟨(some 4), .mv (.tmp 14), none⟩]
def d32c : DC := .seq (.reg d32r0) (.seq (.reg d32r1) (.ret))
def d32 : DFn := ⟨15, d32c, [.tmp 4]⟩
theorem d32_ok : compF Try.prog 32 = some d32 := by kernel_rfl
/- foyer/runs.divide[foyer/runs.seat] -/
def d33r0 : List GOp := [
  ⟨(some 4), .mv (.const (.slice none 0 0)), none⟩]
def d33r1 : List GOp := [
  ⟨(some 5), .mv (.const (.slice none 0 0)), none⟩]
def d33r2 : List GOp := [
  ⟨(some 6), .mv (.const (.int .i64 0)), none⟩]
def d33r3 : List GOp := [
  ⟨(some 8), .mv (.tmp 0), none⟩,
  ⟨(some 9), .len false (.tmp 8), none⟩,
  ⟨(some 10), .mv (.const (.int .i64 0)), none⟩]
def d33r4 : List GOp := [
  ⟨(some 11), .bin .lss (.tmp 10) (.tmp 9), none⟩]
def d33r5 : List GOp := [
  ⟨(some 12), .mv (.tmp 10), none⟩,
  ⟨(some 7), .mv (.tmp 12), none⟩]
def d33r6 : List GOp := [
  ⟨(some 13), .mv (.tmp 7), none⟩,
  ⟨(some 14), .bin .add (.tmp 13) (.const (.int .i64 1)), none⟩,
  ⟨(some 15), .mv (.tmp 0), none⟩,
  ⟨(some 16), .len false (.tmp 15), none⟩,
  ⟨(some 17), .bin .eql (.tmp 14) (.tmp 16), none⟩,
  ⟨(some 18), .mv (.tmp 17), none⟩,
  ⟨(some 19), .mv (.tmp 1), (some (18, false))⟩,
  ⟨(some 20), .mv (.tmp 0), (some (18, false))⟩,
  ⟨(some 21), .mv (.tmp 7), (some (18, false))⟩,
  ⟨(some 22), .bin .add (.tmp 21) (.const (.int .i64 1)), (some (18, false))⟩,
  ⟨(some 23), .idxA 10 (.tmp 20) (.tmp 22), (some (18, false))⟩,
  ⟨(some 24), .load 10 true (.tmp 23), (some (18, false))⟩,
  ⟨(some 25), .mv (.tmp 0), (some (18, false))⟩,
  ⟨(some 26), .mv (.tmp 7), (some (18, false))⟩,
  ⟨(some 27), .idxA 10 (.tmp 25) (.tmp 26), (some (18, false))⟩,
  ⟨(some 28), .load 10 true (.tmp 27), (some (18, false))⟩,
  ⟨(some 29), .callv (.tmp 19) [(.tmp 24), (.tmp 28)], (some (18, false))⟩,
  ⟨(some 30), .un .not (.tmp 29), (some (18, false))⟩,
  ⟨(some 31), .pick (.tmp 18) (.const (.bool true)) (.tmp 30), none⟩]
def d33r7 : List GOp := [
  ⟨(some 32), .mv (.tmp 5), none⟩,
  ⟨(some 33), .mv (.tmp 0), none⟩,
  ⟨(some 34), .mv (.tmp 6), none⟩,
  ⟨(some 35), .mv (.tmp 7), none⟩,
  ⟨(some 36), .bin .add (.tmp 35) (.const (.int .i64 1)), none⟩,
  ⟨(some 37), .slc 10 (.tmp 33) (some (.tmp 34)) (some (.tmp 36)), none⟩,
  ⟨(some 38), .bslice 47 1 1 (.slice none 0 0) [(0, (.tmp 37))], none⟩,
  ⟨(some 39), .app 47 1 24 (.slice none 0 0) (.tmp 32) (.tmp 38), none⟩,
  ⟨(some 5), .mv (.tmp 39), none⟩]
def d33r8 : List GOp := [
  ⟨(some 40), .mv (.tmp 7), none⟩,
  ⟨(some 41), .bin .add (.tmp 40) (.const (.int .i64 1)), none⟩,
  ⟨(some 6), .mv (.tmp 41), none⟩]
def d33r9 : List GOp := [
  ⟨(some 42), .bin .add (.tmp 10) (.const (.int .i64 1)), none⟩,
  ⟨(some 10), .mv (.tmp 42), none⟩]
def d33l10 : DC := .seq (.reg d33r4) (.seq (.cond (.tmp 11) (.skip) (.exit 0)) (.seq (.block 1 (.seq (.reg d33r5) (.seq (.par d33r6) (.cond (.tmp 31) (.seq (.reg d33r7) (.reg d33r8)) (.skip))))) (.reg d33r9)))
def d33r11 : List GOp := [
  ⟨(some 43), .mv (.tmp 5), none⟩,
  ⟨(some 4), .mv (.tmp 43), none⟩]
def d33c : DC := .seq (.reg d33r0) (.seq (.reg d33r1) (.seq (.reg d33r2) (.seq (.seq (.reg d33r3) (.block 0 (.loop d33l10))) (.seq (.reg d33r11) (.ret)))))
def d33 : DFn := ⟨44, d33c, [.tmp 4]⟩
theorem d33_ok : compF Try.prog 33 = some d33 := by kernel_rfl
/- (foyer/runs.seat).follows -/
def d34r0 : List GOp := [
  ⟨(some 2), .box 52 (.tmp 0), none⟩,
  ⟨(some 3), .box 52 (.tmp 1), none⟩,
  ⟨(some 4), .mv (.const (.bool false)), none⟩]
def d34r1 : List GOp := [
  ⟨(some 5), .fadd 0 (.tmp 3), none⟩,
  ⟨(some 6), .fadd 4 (.tmp 5), none⟩,
  ⟨(some 7), .load 1 false (.tmp 6), none⟩,
  ⟨(some 8), .bin .add (.tmp 7) (.const (.int .i64 1)), none⟩,
  ⟨(some 9), .fadd 0 (.tmp 3), none⟩,
  ⟨(some 10), .fadd 4 (.tmp 9), none⟩,
  ⟨none, .store 1 (.tmp 10) (.tmp 8), none⟩]
def d34r2 : List GOp := [
  ⟨(some 11), .load 10 true (.tmp 2), none⟩,
  ⟨(some 12), .load 10 true (.tmp 3), none⟩,
  ⟨(some 13), .call 42 [(.tmp 11), (.tmp 12)], none⟩,
  ⟨(some 14), .bin .eql (.tmp 13) (.const (.int .i64 0)), none⟩,
  ⟨(some 4), .mv (.tmp 14), none⟩]
def d34c : DC := .seq (.reg d34r0) (.seq (.reg d34r1) (.seq (.reg d34r2) (.ret)))
def d34 : DFn := ⟨15, d34c, [.tmp 4]⟩
theorem d34_ok : compF Try.prog 34 = some d34 := by kernel_rfl
/- slices.Sorted[int] -/
def d35r0 : List GOp := [
  ⟨(some 2), .mv (.const (.slice none 0 0)), none⟩]
def d35r1 : List GOp := [
  ⟨(some 4), .mv (.tmp 0), none⟩,
  ⟨(some 5), .call 44 [(.tmp 4)], none⟩,
  ⟨(some 3), .mv (.tmp 5), none⟩]
def d35r2 : List GOp := [
  ⟨(some 6), .mv (.tmp 3), none⟩,
  ⟨(some 7), .call 45 [(.tmp 6)], none⟩]
def d35r3 : List GOp := [
  ⟨(some 8), .mv (.tmp 3), none⟩,
  ⟨(some 2), .mv (.tmp 8), none⟩]
def d35c : DC := .seq (.reg d35r0) (.seq (.reg d35r1) (.seq (.reg d35r2) (.seq (.reg d35r3) (.ret))))
def d35 : DFn := ⟨9, d35c, [.tmp 2]⟩
theorem d35_ok : compF Try.prog 35 = some d35 := by kernel_rfl
/- slices.Values[[]int,int] -/
def d36r0 : List GOp := [
  ⟨(some 1), .box 24 (.tmp 0), none⟩,
  ⟨(some 2), .mv (.const .nilFunc), none⟩]
def d36r1 : List GOp := [
  ⟨(some 3), .mkfn (.func 46) [] [(.tmp 1)], none⟩,
  ⟨(some 2), .mv (.tmp 3), none⟩]
def d36c : DC := .seq (.reg d36r0) (.seq (.reg d36r1) (.ret))
def d36 : DFn := ⟨4, d36c, [.tmp 2]⟩
theorem d36_ok : compF Try.prog 36 = some d36 := by kernel_rfl
/- NOT SERVED 37 "slices.Compact[[]int,int]": builtin clear -/
/- NOT SERVED 38 "slices.Clone[[]int,int]": binop ('TypeDesc.slice', 3) -/
/- slices.Contains[[]int,int] -/
def d39r0 : List GOp := [
  ⟨(some 4), .mv (.const (.bool false)), none⟩]
def d39r1 : List GOp := [
  ⟨(some 5), .mv (.tmp 0), none⟩,
  ⟨(some 6), .mv (.tmp 1), none⟩,
  ⟨(some 7), .call 47 [(.tmp 5), (.tmp 6)], none⟩,
  ⟨(some 8), .bin .geq (.tmp 7) (.const (.int .i64 0)), none⟩,
  ⟨(some 4), .mv (.tmp 8), none⟩]
def d39c : DC := .seq (.reg d39r0) (.seq (.reg d39r1) (.ret))
def d39 : DFn := ⟨9, d39c, [.tmp 4]⟩
theorem d39_ok : compF Try.prog 39 = some d39 := by kernel_rfl
/- foyer/foyerref11.alone -/
def d40r0 : List GOp := [
  ⟨(some 4), .mv (.const (.slice none 0 0)), none⟩]
def d40r1 : List GOp := [
  ⟨(some 8), .mv (.tmp 0), none⟩,
  ⟨(some 9), .mv (.tmp 1), none⟩,
  ⟨(some 10), .call 16 [(.tmp 8), (.tmp 9)], none⟩,
  ⟨(some 5), .mv (.tmp 10), none⟩]
def d40r2 : List GOp := [
  ⟨(some 6), .mv (.const (.slice none 0 0)), none⟩]
def d40r3 : List GOp := [
  ⟨(some 7), .mv (.const (.int .i64 0)), none⟩]
def d40r4 : List GOp := [
  ⟨(some 11), .mv (.tmp 7), none⟩,
  ⟨(some 12), .mv (.tmp 5), none⟩,
  ⟨(some 13), .len false (.tmp 12), none⟩,
  ⟨(some 14), .bin .lss (.tmp 11) (.tmp 13), none⟩]
def d40r5 : List GOp := [
  ⟨(some 17), .mv (.tmp 5), none⟩,
  ⟨(some 18), .mv (.tmp 7), none⟩,
  ⟨(some 19), .idxA 1 (.tmp 17) (.tmp 18), none⟩,
  ⟨(some 20), .load 1 false (.tmp 19), none⟩,
  ⟨(some 21), .len false (.tmp 20), none⟩,
  ⟨(some 22), .bin .eql (.tmp 21) (.const (.int .i64 1)), none⟩]
def d40r6 : List GOp := [
  ⟨(some 23), .mv (.tmp 6), none⟩,
  ⟨(some 24), .mv (.tmp 5), none⟩,
  ⟨(some 25), .mv (.tmp 7), none⟩,
  ⟨(some 26), .idxA 1 (.tmp 24) (.tmp 25), none⟩,
  ⟨(some 27), .load 1 false (.tmp 26), none⟩,
  ⟨(some 28), .idxA 1 (.tmp 27) (.const (.int .i64 0)), none⟩,
  ⟨(some 29), .load 1 false (.tmp 28), none⟩,
  ⟨(some 30), .bslice 3 1 1 (.int .i64 0) [(0, (.tmp 29))], none⟩,
  ⟨(some 31), .app 3 1 8 (.int .i64 0) (.tmp 23) (.tmp 30), none⟩,
  ⟨(some 6), .mv (.tmp 31), none⟩]
def d40r7 : List GOp := [
  ⟨(some 15), .mv (.tmp 7), none⟩,
  ⟨(some 16), .bin .add (.tmp 15) (.const (.int .i64 1)), none⟩,
  ⟨(some 7), .mv (.tmp 16), none⟩]
def d40l8 : DC := .seq (.seq (.reg d40r4) (.cond (.tmp 14) (.skip) (.exit 0))) (.seq (.block 1 (.seq (.reg d40r5) (.cond (.tmp 22) (.reg d40r6) (.skip)))) (.reg d40r7))
def d40r9 : List GOp := [
  ⟨(some 32), .mv (.tmp 6), none⟩,
  ⟨(some 4), .mv (.tmp 32), none⟩]
def d40c : DC := .seq (.reg d40r0) (.seq (.reg d40r1) (.seq (.reg d40r2) (.seq (.seq (.reg d40r3) (.block 0 (.loop d40l8))) (.seq (.reg d40r9) (.ret)))))
def d40 : DFn := ⟨33, d40c, [.tmp 4]⟩
theorem d40_ok : compF Try.prog 40 = some d40 := by kernel_rfl
/- foyer/foyerref11.before -/
def d41r0 : List GOp := [
  ⟨(some 2), .box 37 (.tmp 0), none⟩,
  ⟨(some 3), .box 37 (.tmp 1), none⟩,
  ⟨(some 4), .mv (.const (.bool false)), none⟩]
def d41r1 : List GOp := [
  ⟨(some 5), .fadd 1 (.tmp 2), none⟩,
  ⟨(some 6), .load 1 false (.tmp 5), none⟩,
  ⟨(some 7), .fadd 1 (.tmp 3), none⟩,
  ⟨(some 8), .load 1 false (.tmp 7), none⟩,
  ⟨(some 9), .bin .neq (.tmp 6) (.tmp 8), none⟩]
def d41r2 : List GOp := [
  ⟨(some 10), .fadd 1 (.tmp 2), none⟩,
  ⟨(some 11), .load 1 false (.tmp 10), none⟩,
  ⟨(some 12), .fadd 1 (.tmp 3), none⟩,
  ⟨(some 13), .load 1 false (.tmp 12), none⟩,
  ⟨(some 14), .bin .lss (.tmp 11) (.tmp 13), none⟩,
  ⟨(some 4), .mv (.tmp 14), none⟩]
def d41r3 : List GOp := [
  ⟨(some 15), .fadd 2 (.tmp 2), none⟩,
  ⟨(some 16), .load 1 false (.tmp 15), none⟩,
  ⟨(some 17), .fadd 2 (.tmp 3), none⟩,
  ⟨(some 18), .load 1 false (.tmp 17), none⟩,
  ⟨(some 19), .bin .neq (.tmp 16) (.tmp 18), none⟩]
def d41r4 : List GOp := [
  ⟨(some 20), .fadd 2 (.tmp 2), none⟩,
  ⟨(some 21), .load 1 false (.tmp 20), none⟩,
  ⟨(some 22), .fadd 2 (.tmp 3), none⟩,
  ⟨(some 23), .load 1 false (.tmp 22), none⟩,
  ⟨(some 24), .bin .lss (.tmp 21) (.tmp 23), none⟩,
  ⟨(some 4), .mv (.tmp 24), none⟩]
def d41r5 : List GOp := [
  ⟨(some 25), .fadd 3 (.tmp 2), none⟩,
  ⟨(some 26), .load 1 false (.tmp 25), none⟩,
  ⟨(some 27), .fadd 3 (.tmp 3), none⟩,
  ⟨(some 28), .load 1 false (.tmp 27), none⟩,
  ⟨(some 29), .bin .neq (.tmp 26) (.tmp 28), none⟩]
def d41r6 : List GOp := [
  ⟨(some 30), .fadd 3 (.tmp 2), none⟩,
  ⟨(some 31), .load 1 false (.tmp 30), none⟩,
  ⟨(some 32), .fadd 3 (.tmp 3), none⟩,
  ⟨(some 33), .load 1 false (.tmp 32), none⟩,
  ⟨(some 34), .bin .lss (.tmp 31) (.tmp 33), none⟩,
  ⟨(some 4), .mv (.tmp 34), none⟩]
def d41r7 : List GOp := [
  ⟨(some 35), .fadd 4 (.tmp 2), none⟩,
  ⟨(some 36), .load 1 false (.tmp 35), none⟩,
  ⟨(some 37), .fadd 4 (.tmp 3), none⟩,
  ⟨(some 38), .load 1 false (.tmp 37), none⟩,
  ⟨(some 39), .bin .lss (.tmp 36) (.tmp 38), none⟩,
  ⟨(some 4), .mv (.tmp 39), none⟩]
def d41c : DC := .seq (.reg d41r0) (.seq (.seq (.reg d41r1) (.cond (.tmp 9) (.seq (.reg d41r2) (.ret)) (.skip))) (.seq (.seq (.reg d41r3) (.cond (.tmp 19) (.seq (.reg d41r4) (.ret)) (.skip))) (.seq (.seq (.reg d41r5) (.cond (.tmp 29) (.seq (.reg d41r6) (.ret)) (.skip))) (.seq (.reg d41r7) (.ret)))))
def d41 : DFn := ⟨40, d41c, [.tmp 4]⟩
theorem d41_ok : compF Try.prog 41 = some d41 := by kernel_rfl
/- (foyer/runs.seat).order -/
def d42r0 : List GOp := [
  ⟨(some 2), .box 52 (.tmp 0), none⟩,
  ⟨(some 3), .box 52 (.tmp 1), none⟩,
  ⟨(some 4), .mv (.const (.int .i64 0)), none⟩]
def d42r1 : List GOp := [
  ⟨(some 5), .fadd 0 (.tmp 2), none⟩,
  ⟨(some 6), .fadd 1 (.tmp 5), none⟩,
  ⟨(some 7), .load 1 false (.tmp 6), none⟩,
  ⟨(some 8), .fadd 0 (.tmp 3), none⟩,
  ⟨(some 9), .fadd 1 (.tmp 8), none⟩,
  ⟨(some 10), .load 1 false (.tmp 9), none⟩,
  ⟨(some 11), .call 49 [(.tmp 7), (.tmp 10)], none⟩,
  ⟨(some 12), .fadd 0 (.tmp 2), none⟩,
  ⟨(some 13), .fadd 2 (.tmp 12), none⟩,
  ⟨(some 14), .load 1 false (.tmp 13), none⟩,
  ⟨(some 15), .fadd 0 (.tmp 3), none⟩,
  ⟨(some 16), .fadd 2 (.tmp 15), none⟩,
  ⟨(some 17), .load 1 false (.tmp 16), none⟩,
  ⟨(some 18), .call 49 [(.tmp 14), (.tmp 17)], none⟩,
  ⟨(some 19), .fadd 0 (.tmp 2), none⟩,
  ⟨(some 20), .fadd 3 (.tmp 19), none⟩,
  ⟨(some 21), .load 1 false (.tmp 20), none⟩,
  ⟨(some 22), .fadd 0 (.tmp 3), none⟩,
  ⟨(some 23), .fadd 3 (.tmp 22), none⟩,
  ⟨(some 24), .load 1 false (.tmp 23), none⟩,
  ⟨(some 25), .call 49 [(.tmp 21), (.tmp 24)], none⟩,
  ⟨(some 26), .fadd 0 (.tmp 2), none⟩,
  ⟨(some 27), .fadd 4 (.tmp 26), none⟩,
  ⟨(some 28), .load 1 false (.tmp 27), none⟩,
  ⟨(some 29), .fadd 0 (.tmp 3), none⟩,
  ⟨(some 30), .fadd 4 (.tmp 29), none⟩,
  ⟨(some 31), .load 1 false (.tmp 30), none⟩,
  ⟨(some 32), .call 49 [(.tmp 28), (.tmp 31)], none⟩,
  ⟨(some 33), .bslice 3 1 4 (.int .i64 0) [(0, (.tmp 11)), (1, (.tmp 18)), (2, (.tmp 25)), (3, (.tmp 32))], none⟩,
  ⟨(some 34), .call 48 [(.tmp 33)], none⟩,
  ⟨(some 4), .mv (.tmp 34), none⟩]
def d42c : DC := .seq (.reg d42r0) (.seq (.par d42r1) (.ret))
def d42 : DFn := ⟨35, d42c, [.tmp 4]⟩
theorem d42_ok : compF Try.prog 42 = some d42 := by kernel_rfl
/- slices.IndexFunc[[]foyer/runs.seat,foyer/runs.seat] -/
def d43r0 : List GOp := [
  ⟨(some 4), .mv (.const (.int .i64 0)), none⟩]
def d43r1 : List GOp := [
  ⟨(some 6), .mv (.tmp 0), none⟩,
  ⟨(some 7), .len false (.tmp 6), none⟩,
  ⟨(some 8), .mv (.const (.int .i64 0)), none⟩]
def d43r2 : List GOp := [
  ⟨(some 9), .bin .lss (.tmp 8) (.tmp 7), none⟩]
def d43r3 : List GOp := [
  ⟨(some 10), .mv (.tmp 8), none⟩,
  ⟨(some 5), .mv (.tmp 10), none⟩]
def d43r4 : List GOp := [
  ⟨(some 11), .mv (.tmp 1), none⟩,
  ⟨(some 12), .mv (.tmp 0), none⟩,
  ⟨(some 13), .mv (.tmp 5), none⟩,
  ⟨(some 14), .idxA 10 (.tmp 12) (.tmp 13), none⟩,
  ⟨(some 15), .load 10 true (.tmp 14), none⟩,
  ⟨(some 16), .callv (.tmp 11) [(.tmp 15)], none⟩]
def d43r5 : List GOp := [
  ⟨(some 17), .mv (.tmp 5), none⟩,
  ⟨(some 4), .mv (.tmp 17), none⟩]
def d43r6 : List GOp := [
  ⟨(some 18), .bin .add (.tmp 8) (.const (.int .i64 1)), none⟩,
  ⟨(some 8), .mv (.tmp 18), none⟩]
def d43l7 : DC := .seq (.reg d43r2) (.seq (.cond (.tmp 9) (.skip) (.exit 0)) (.seq (.block 1 (.seq (.reg d43r3) (.seq (.reg d43r4) (.cond (.tmp 16) (.seq (.reg d43r5) (.ret)) (.skip))))) (.reg d43r6)))
def d43r8 : List GOp := [
  ⟨(some 4), .mv (.const (.int .i64 (-1))), none⟩]
def d43c : DC := .seq (.reg d43r0) (.seq (.seq (.reg d43r1) (.block 0 (.loop d43l7))) (.seq (.reg d43r8) (.ret)))
def d43 : DFn := ⟨19, d43c, [.tmp 4]⟩
theorem d43_ok : compF Try.prog 43 = some d43 := by kernel_rfl
/- slices.Collect[int] -/
def d44r0 : List GOp := [
  ⟨(some 2), .mv (.const (.slice none 0 0)), none⟩]
def d44r1 : List GOp := [
  ⟨(some 3), .mv (.tmp 0), none⟩,
  ⟨(some 4), .call 50 [(.const (.slice none 0 0)), (.tmp 3)], none⟩,
  ⟨(some 2), .mv (.tmp 4), none⟩]
def d44c : DC := .seq (.reg d44r0) (.seq (.reg d44r1) (.ret))
def d44 : DFn := ⟨5, d44c, [.tmp 2]⟩
theorem d44_ok : compF Try.prog 44 = some d44 := by kernel_rfl
/- slices.Sort[[]int,int] -/
def d45r0 : List GOp := [
  ⟨(some 3), .mv (.tmp 0), none⟩,
  ⟨(some 4), .len false (.tmp 3), none⟩,
  ⟨(some 2), .mv (.tmp 4), none⟩]
def d45r1 : List GOp := [
  ⟨(some 5), .mv (.tmp 0), none⟩,
  ⟨(some 6), .mv (.tmp 2), none⟩,
  ⟨(some 7), .mv (.tmp 2), none⟩,
  ⟨(some 8), .cvi .u64 (.tmp 7), none⟩,
  ⟨(some 9), .call 52 [(.tmp 8)], none⟩,
  ⟨(some 10), .call 51 [(.tmp 5), (.const (.int .i64 0)), (.tmp 6), (.tmp 9)], none⟩]
def d45c : DC := .seq (.reg d45r0) (.reg d45r1)
def d45 : DFn := ⟨11, d45c, []⟩
theorem d45_ok : compF Try.prog 45 = some d45 := by kernel_rfl
/- slices.Values[[]int,int]$1 -/
def d46r0 : List GOp := [
  ⟨(some 5), .load 1 false (.tmp 1), none⟩,
  ⟨(some 6), .len false (.tmp 5), none⟩,
  ⟨(some 7), .mv (.const (.int .i64 0)), none⟩]
def d46r1 : List GOp := [
  ⟨(some 8), .bin .lss (.tmp 7) (.tmp 6), none⟩]
def d46r2 : List GOp := [
  ⟨(some 9), .idxA 1 (.tmp 5) (.tmp 7), none⟩,
  ⟨(some 10), .load 1 false (.tmp 9), none⟩,
  ⟨(some 4), .mv (.tmp 10), none⟩]
def d46r3 : List GOp := [
  ⟨(some 11), .mv (.tmp 0), none⟩,
  ⟨(some 12), .mv (.tmp 4), none⟩,
  ⟨(some 13), .callv (.tmp 11) [(.tmp 12)], none⟩,
  ⟨(some 14), .un .not (.tmp 13), none⟩]
def d46r4 : List GOp := [
  ⟨(some 15), .bin .add (.tmp 7) (.const (.int .i64 1)), none⟩,
  ⟨(some 7), .mv (.tmp 15), none⟩]
def d46l5 : DC := .seq (.reg d46r1) (.seq (.cond (.tmp 8) (.skip) (.exit 0)) (.seq (.block 1 (.seq (.reg d46r2) (.seq (.reg d46r3) (.cond (.tmp 14) (.ret) (.skip))))) (.reg d46r4)))
def d46c : DC := .seq (.reg d46r0) (.block 0 (.loop d46l5))
def d46 : DFn := ⟨16, d46c, []⟩
theorem d46_ok : compF Try.prog 46 = some d46 := by kernel_rfl
/- slices.Index[[]int,int] -/
def d47r0 : List GOp := [
  ⟨(some 4), .mv (.const (.int .i64 0)), none⟩]
def d47r1 : List GOp := [
  ⟨(some 6), .mv (.tmp 0), none⟩,
  ⟨(some 7), .len false (.tmp 6), none⟩,
  ⟨(some 8), .mv (.const (.int .i64 0)), none⟩]
def d47r2 : List GOp := [
  ⟨(some 9), .bin .lss (.tmp 8) (.tmp 7), none⟩]
def d47r3 : List GOp := [
  ⟨(some 10), .mv (.tmp 8), none⟩,
  ⟨(some 5), .mv (.tmp 10), none⟩]
def d47r4 : List GOp := [
  ⟨(some 11), .mv (.tmp 1), none⟩,
  ⟨(some 12), .mv (.tmp 0), none⟩,
  ⟨(some 13), .mv (.tmp 5), none⟩,
  ⟨(some 14), .idxA 1 (.tmp 12) (.tmp 13), none⟩,
  ⟨(some 15), .load 1 false (.tmp 14), none⟩,
  ⟨(some 16), .bin .eql (.tmp 11) (.tmp 15), none⟩]
def d47r5 : List GOp := [
  ⟨(some 17), .mv (.tmp 5), none⟩,
  ⟨(some 4), .mv (.tmp 17), none⟩]
def d47r6 : List GOp := [
  ⟨(some 18), .bin .add (.tmp 8) (.const (.int .i64 1)), none⟩,
  ⟨(some 8), .mv (.tmp 18), none⟩]
def d47l7 : DC := .seq (.reg d47r2) (.seq (.cond (.tmp 9) (.skip) (.exit 0)) (.seq (.block 1 (.seq (.reg d47r3) (.seq (.reg d47r4) (.cond (.tmp 16) (.seq (.reg d47r5) (.ret)) (.skip))))) (.reg d47r6)))
def d47r8 : List GOp := [
  ⟨(some 4), .mv (.const (.int .i64 (-1))), none⟩]
def d47c : DC := .seq (.reg d47r0) (.seq (.seq (.reg d47r1) (.block 0 (.loop d47l7))) (.seq (.reg d47r8) (.ret)))
def d47 : DFn := ⟨19, d47c, [.tmp 4]⟩
theorem d47_ok : compF Try.prog 47 = some d47 := by kernel_rfl
/- cmp.Or[int] -/
def d48r0 : List GOp := [
  ⟨(some 2), .mv (.const (.int .i64 0)), none⟩]
def d48r1 : List GOp := [
  ⟨(some 3), .mv (.const (.int .i64 0)), none⟩]
def d48r2 : List GOp := [
  ⟨(some 6), .mv (.tmp 0), none⟩,
  ⟨(some 7), .len false (.tmp 6), none⟩,
  ⟨(some 8), .mv (.const (.int .i64 0)), none⟩]
def d48r3 : List GOp := [
  ⟨(some 9), .bin .lss (.tmp 8) (.tmp 7), none⟩]
def d48r4 : List GOp := [
  ⟨(some 10), .idxA 1 (.tmp 6) (.tmp 8), none⟩,
  ⟨(some 11), .load 1 false (.tmp 10), none⟩,
  ⟨(some 5), .mv (.tmp 11), none⟩]
def d48r5 : List GOp := [
  ⟨(some 12), .mv (.tmp 5), none⟩,
  ⟨(some 13), .mv (.tmp 3), none⟩,
  ⟨(some 14), .bin .neq (.tmp 12) (.tmp 13), none⟩]
def d48r6 : List GOp := [
  ⟨(some 15), .mv (.tmp 5), none⟩,
  ⟨(some 2), .mv (.tmp 15), none⟩]
def d48r7 : List GOp := [
  ⟨(some 16), .bin .add (.tmp 8) (.const (.int .i64 1)), none⟩,
  ⟨(some 8), .mv (.tmp 16), none⟩]
def d48l8 : DC := .seq (.reg d48r3) (.seq (.cond (.tmp 9) (.skip) (.exit 0)) (.seq (.block 1 (.seq (.reg d48r4) (.seq (.reg d48r5) (.cond (.tmp 14) (.seq (.reg d48r6) (.ret)) (.skip))))) (.reg d48r7)))
def d48r9 : List GOp := [
  ⟨(some 17), .mv (.tmp 3), none⟩,
  ⟨(some 2), .mv (.tmp 17), none⟩]
def d48c : DC := .seq (.reg d48r0) (.seq (.reg d48r1) (.seq (.seq (.reg d48r2) (.block 0 (.loop d48l8))) (.seq (.reg d48r9) (.ret))))
def d48 : DFn := ⟨18, d48c, [.tmp 2]⟩
theorem d48_ok : compF Try.prog 48 = some d48 := by kernel_rfl
/- cmp.Compare[int] -/
def d49r0 : List GOp := [
  ⟨(some 4), .mv (.const (.int .i64 0)), none⟩]
def d49r1 : List GOp := [
  ⟨(some 7), .mv (.tmp 0), none⟩,
  ⟨(some 8), .call 53 [(.tmp 7)], none⟩,
  ⟨(some 5), .mv (.tmp 8), none⟩]
def d49r2 : List GOp := [
  ⟨(some 9), .mv (.tmp 1), none⟩,
  ⟨(some 10), .call 53 [(.tmp 9)], none⟩,
  ⟨(some 6), .mv (.tmp 10), none⟩]
def d49r3 : List GOp := [
  ⟨(some 11), .mv (.tmp 5), none⟩]
def d49r4 : List GOp := [
  ⟨(some 12), .mv (.tmp 6), none⟩]
def d49r5 : List GOp := [
  ⟨(some 4), .mv (.const (.int .i64 0)), none⟩]
def d49r6 : List GOp := [
  ⟨(some 4), .mv (.const (.int .i64 (-1))), none⟩]
def d49r7 : List GOp := [
  ⟨(some 13), .mv (.tmp 6), none⟩]
def d49r8 : List GOp := [
  ⟨(some 4), .mv (.const (.int .i64 1)), none⟩]
def d49r9 : List GOp := [
  ⟨(some 14), .mv (.tmp 0), none⟩,
  ⟨(some 15), .mv (.tmp 1), none⟩,
  ⟨(some 16), .bin .lss (.tmp 14) (.tmp 15), none⟩]
def d49r10 : List GOp := [
  ⟨(some 4), .mv (.const (.int .i64 (-1))), none⟩]
def d49r11 : List GOp := [
  ⟨(some 17), .mv (.tmp 0), none⟩,
  ⟨(some 18), .mv (.tmp 1), none⟩,
  ⟨(some 19), .bin .gtr (.tmp 17) (.tmp 18), none⟩]
def d49r12 : List GOp := [
  ⟨(some 4), .mv (.const (.int .i64 1)), none⟩]
def d49r13 : List GOp := [
  ⟨(some 4), .mv (.const (.int .i64 0)), none⟩]
def d49c : DC := .seq (.reg d49r0) (.seq (.reg d49r1) (.seq (.reg d49r2) (.seq (.seq (.reg d49r3) (.cond (.tmp 11) (.seq (.seq (.reg d49r4) (.cond (.tmp 12) (.seq (.reg d49r5) (.ret)) (.skip))) (.seq (.reg d49r6) (.ret))) (.skip))) (.seq (.seq (.reg d49r7) (.cond (.tmp 13) (.seq (.reg d49r8) (.ret)) (.skip))) (.seq (.seq (.reg d49r9) (.cond (.tmp 16) (.seq (.reg d49r10) (.ret)) (.skip))) (.seq (.seq (.reg d49r11) (.cond (.tmp 19) (.seq (.reg d49r12) (.ret)) (.skip))) (.seq (.reg d49r13) (.ret))))))))
def d49 : DFn := ⟨20, d49c, [.tmp 4]⟩
theorem d49_ok : compF Try.prog 49 = some d49 := by kernel_rfl
/- NOT SERVED 50 "slices.AppendSeq[[]int,int]": code rangeFunc -/
/- cmp.isNaN[int] -/
def d53r0 : List GOp := [
  ⟨(some 2), .mv (.const (.bool false)), none⟩]
def d53r1 : List GOp := [
  ⟨(some 3), .mv (.tmp 0), none⟩,
  ⟨(some 4), .mv (.tmp 0), none⟩,
  ⟨(some 5), .bin .neq (.tmp 3) (.tmp 4), none⟩,
  ⟨(some 2), .mv (.tmp 5), none⟩]
def d53c : DC := .seq (.reg d53r0) (.seq (.reg d53r1) (.ret))
def d53 : DFn := ⟨6, d53c, [.tmp 2]⟩
theorem d53_ok : compF Try.prog 53 = some d53 := by kernel_rfl
/- cmp.Less[int] -/
def d60r0 : List GOp := [
  ⟨(some 4), .mv (.const (.bool false)), none⟩]
def d60r1 : List GOp := [
  ⟨(some 5), .mv (.tmp 0), none⟩,
  ⟨(some 6), .call 53 [(.tmp 5)], none⟩,
  ⟨(some 7), .mv (.tmp 6), none⟩,
  ⟨(some 8), .mv (.tmp 1), (some (7, true))⟩,
  ⟨(some 9), .call 53 [(.tmp 8)], (some (7, true))⟩,
  ⟨(some 10), .un .not (.tmp 9), (some (7, true))⟩,
  ⟨(some 11), .pick (.tmp 7) (.tmp 10) (.const (.bool false)), none⟩,
  ⟨(some 12), .mv (.tmp 11), none⟩,
  ⟨(some 13), .mv (.tmp 0), (some (12, false))⟩,
  ⟨(some 14), .mv (.tmp 1), (some (12, false))⟩,
  ⟨(some 15), .bin .lss (.tmp 13) (.tmp 14), (some (12, false))⟩,
  ⟨(some 16), .pick (.tmp 12) (.const (.bool true)) (.tmp 15), none⟩,
  ⟨(some 4), .mv (.tmp 16), none⟩]
def d60c : DC := .seq (.reg d60r0) (.seq (.reg d60r1) (.ret))
def d60 : DFn := ⟨17, d60c, [.tmp 4]⟩
theorem d60_ok : compF Try.prog 60 = some d60 := by kernel_rfl
end Go.SX.Runs
