import Derived.Test.YtlahdopmiplnoaaXSxO
import Derived.Test.YtlahdopmiplnoaaProg
namespace Go.SX.Runs
open Go Go.SX Go.Proofs
set_option maxRecDepth 100000
/- foyer/runs.Singles -/
def d20r0 : List GOp := [
  ⟨(some 6), .mv (.const (.slice none 0 0)), none⟩]
def d20r1 : List GOp := [
  ⟨(some 15), .mv (.tmp 0), none⟩,
  ⟨(some 16), .len false (.tmp 15), none⟩,
  ⟨(some 17), .mks 4 1 1 (.bool false) (.tmp 16) (.tmp 16), none⟩,
  ⟨(some 7), .mv (.tmp 17), none⟩]
def d20r2 : List GOp := [
  ⟨(some 18), .mv (.tmp 0), none⟩,
  ⟨(some 19), .len false (.tmp 18), none⟩,
  ⟨(some 20), .mv (.const (.int .i64 0)), none⟩]
def d20r3 : List GOp := [
  ⟨(some 21), .bin .lss (.tmp 20) (.tmp 19), none⟩]
def d20r4 : List GOp := [
  ⟨(some 22), .mv (.tmp 20), none⟩,
  ⟨(some 8), .mv (.tmp 22), none⟩]
def d20r5 : List GOp := [
  ⟨(some 23), .mv (.tmp 7), none⟩,
  ⟨(some 24), .mv (.tmp 8), none⟩,
  ⟨(some 25), .mv (.tmp 1), none⟩,
  ⟨(some 26), .mv (.tmp 8), none⟩,
  ⟨(some 27), .call 32 [(.tmp 25), (.tmp 26)], none⟩,
  ⟨(some 28), .mv (.tmp 27), none⟩,
  ⟨(some 29), .mv (.tmp 2), (some (28, false))⟩,
  ⟨(some 30), .mv (.tmp 8), (some (28, false))⟩,
  ⟨(some 31), .call 39 [(.tmp 29), (.tmp 30)], (some (28, false))⟩,
  ⟨(some 32), .pick (.tmp 28) (.const (.bool true)) (.tmp 31), none⟩,
  ⟨(some 33), .idxA 1 (.tmp 23) (.tmp 24), none⟩,
  ⟨none, .store 1 (.tmp 33) (.tmp 32), none⟩]
def d20r6 : List GOp := [
  ⟨(some 34), .bin .add (.tmp 20) (.const (.int .i64 1)), none⟩,
  ⟨(some 20), .mv (.tmp 34), none⟩]
def d20l7 : DC := .seq (.reg d20r3) (.seq (.cond (.tmp 21) (.skip) (.exit 0)) (.seq (.block 1 (.seq (.reg d20r4) (.reg d20r5))) (.reg d20r6)))
def d20r8 : List GOp := [
  ⟨(some 35), .mkm (.int .i64) false, none⟩,
  ⟨(some 9), .mv (.tmp 35), none⟩]
def d20r9 : List GOp := [
  ⟨(some 36), .mv (.tmp 0), none⟩,
  ⟨(some 37), .mv (.tmp 1), none⟩,
  ⟨(some 38), .call 15 [(.tmp 36), (.tmp 37)], none⟩,
  ⟨(some 39), .len false (.tmp 38), none⟩,
  ⟨(some 40), .mv (.const (.int .i64 0)), none⟩]
def d20r10 : List GOp := [
  ⟨(some 41), .bin .lss (.tmp 40) (.tmp 39), none⟩]
def d20r11 : List GOp := [
  ⟨(some 42), .idxA 1 (.tmp 38) (.tmp 40), none⟩,
  ⟨(some 43), .load 1 false (.tmp 42), none⟩,
  ⟨(some 11), .mv (.tmp 43), none⟩]
def d20r12 : List GOp := [
  ⟨(some 44), .mv (.tmp 9), none⟩,
  ⟨(some 45), .mv (.tmp 11), none⟩,
  ⟨(some 46), .idxA 1 (.tmp 45) (.const (.int .i64 0)), none⟩,
  ⟨(some 47), .load 1 false (.tmp 46), none⟩,
  ⟨(some 48), .mv (.tmp 11), none⟩,
  ⟨(some 49), .len false (.tmp 48), none⟩,
  ⟨none, .mset (.int .i64) false (.tmp 44) (.tmp 47) (.tmp 49), none⟩]
def d20r13 : List GOp := [
  ⟨(some 50), .bin .add (.tmp 40) (.const (.int .i64 1)), none⟩,
  ⟨(some 40), .mv (.tmp 50), none⟩]
def d20l14 : DC := .seq (.reg d20r10) (.seq (.cond (.tmp 41) (.skip) (.exit 2)) (.seq (.block 3 (.seq (.reg d20r11) (.reg d20r12))) (.reg d20r13)))
def d20r15 : List GOp := [
  ⟨(some 12), .mv (.const (.slice none 0 0)), none⟩]
def d20r16 : List GOp := [
  ⟨(some 51), .mv (.tmp 0), none⟩,
  ⟨(some 52), .mv (.tmp 7), none⟩,
  ⟨(some 53), .call 15 [(.tmp 51), (.tmp 52)], none⟩,
  ⟨(some 54), .len false (.tmp 53), none⟩,
  ⟨(some 55), .mv (.const (.int .i64 0)), none⟩]
def d20r17 : List GOp := [
  ⟨(some 56), .bin .lss (.tmp 55) (.tmp 54), none⟩]
def d20r18 : List GOp := [
  ⟨(some 57), .idxA 1 (.tmp 53) (.tmp 55), none⟩,
  ⟨(some 58), .load 1 false (.tmp 57), none⟩,
  ⟨(some 14), .mv (.tmp 58), none⟩]
def d20r19 : List GOp := [
  ⟨(some 59), .mv (.tmp 14), none⟩,
  ⟨(some 60), .len false (.tmp 59), none⟩,
  ⟨(some 61), .bin .eql (.tmp 60) (.const (.int .i64 1)), none⟩,
  ⟨(some 62), .mv (.tmp 61), none⟩,
  ⟨(some 63), .mv (.tmp 9), (some (62, true))⟩,
  ⟨(some 64), .mv (.tmp 14), (some (62, true))⟩,
  ⟨(some 65), .idxA 1 (.tmp 64) (.const (.int .i64 0)), (some (62, true))⟩,
  ⟨(some 66), .load 1 false (.tmp 65), (some (62, true))⟩,
  ⟨(some 67), .mget (.int .i64) false false (.int .i64 0) (.tmp 63) (.tmp 66), (some (62, true))⟩,
  ⟨(some 68), .bin .neq (.tmp 67) (.const (.int .i64 1)), (some (62, true))⟩,
  ⟨(some 69), .pick (.tmp 62) (.tmp 68) (.const (.bool false)), none⟩]
def d20r20 : List GOp := [
  ⟨(some 70), .mv (.tmp 12), none⟩,
  ⟨(some 71), .mv (.tmp 14), none⟩,
  ⟨(some 72), .idxA 1 (.tmp 71) (.const (.int .i64 0)), none⟩,
  ⟨(some 73), .load 1 false (.tmp 72), none⟩,
  ⟨(some 74), .bslice 3 1 1 (.int .i64 0) [(0, (.tmp 73))], none⟩,
  ⟨(some 75), .app 3 1 8 (.int .i64 0) (.tmp 70) (.tmp 74), none⟩,
  ⟨(some 12), .mv (.tmp 75), none⟩]
def d20r21 : List GOp := [
  ⟨(some 76), .bin .add (.tmp 55) (.const (.int .i64 1)), none⟩,
  ⟨(some 55), .mv (.tmp 76), none⟩]
def d20l22 : DC := .seq (.reg d20r17) (.seq (.cond (.tmp 56) (.skip) (.exit 4)) (.seq (.block 5 (.seq (.reg d20r18) (.seq (.reg d20r19) (.cond (.tmp 69) (.reg d20r20) (.skip))))) (.reg d20r21)))
def d20r23 : List GOp := [
  ⟨(some 77), .mv (.tmp 12), none⟩,
  ⟨(some 6), .mv (.tmp 77), none⟩]
def d20c : DC := .seq (.reg d20r0) (.seq (.reg d20r1) (.seq (.seq (.reg d20r2) (.block 0 (.loop d20l7))) (.seq (.reg d20r8) (.seq (.seq (.reg d20r9) (.block 2 (.loop d20l14))) (.seq (.reg d20r15) (.seq (.seq (.reg d20r16) (.block 4 (.loop d20l22))) (.seq (.reg d20r23) (.ret))))))))
def d20 : DFn := ⟨78, d20c, [.tmp 6]⟩
theorem d20_ok : compF Try.prog 20 = some d20 := by kernel_rfl
end Go.SX.Runs
