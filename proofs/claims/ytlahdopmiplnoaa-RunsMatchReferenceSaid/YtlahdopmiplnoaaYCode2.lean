/- Parts of the proof. -/
import Derived.Test.YtlahdopmiplnoaaYSxN
import Derived.Test.YtlahdopmiplnoaaProg
set_option linter.unusedSimpArgs false
set_option linter.unusedVariables false
set_option linter.unusedSectionVars false
namespace Go.SX.Runs
open Go Go.SX Go.Proofs
set_option maxRecDepth 100000
/- slices.DeleteFunc[[]foyer/runs.seat,foyer/runs.seat] -/
def d30r0 : List GOp := [
  ⟨(some 4), .mv (.const (.slice none 0 0)), none⟩]
def d30r1 : List GOp := [
  ⟨(some 8), .mv (.tmp 0), none⟩,
  ⟨(some 9), .mv (.tmp 1), none⟩,
  ⟨(some 10), .call 43 [(.tmp 8), (.tmp 9)], none⟩,
  ⟨(some 5), .mv (.tmp 10), none⟩]
def d30r2 : List GOp := [
  ⟨(some 11), .mv (.tmp 5), none⟩,
  ⟨(some 12), .bin .eql (.tmp 11) (.const (.int .i64 (-1))), none⟩]
def d30r3 : List GOp := [
  ⟨(some 13), .mv (.tmp 0), none⟩,
  ⟨(some 4), .mv (.tmp 13), none⟩]
def d30r4 : List GOp := [
  ⟨(some 14), .mv (.tmp 5), none⟩,
  ⟨(some 15), .bin .add (.tmp 14) (.const (.int .i64 1)), none⟩,
  ⟨(some 6), .mv (.tmp 15), none⟩]
def d30r5 : List GOp := [
  ⟨(some 16), .mv (.tmp 6), none⟩,
  ⟨(some 17), .mv (.tmp 0), none⟩,
  ⟨(some 18), .len false (.tmp 17), none⟩,
  ⟨(some 19), .bin .lss (.tmp 16) (.tmp 18), none⟩]
def d30r6 : List GOp := [
  ⟨(some 22), .mv (.tmp 0), none⟩,
  ⟨(some 23), .mv (.tmp 6), none⟩,
  ⟨(some 24), .idxA 10 (.tmp 22) (.tmp 23), none⟩,
  ⟨(some 25), .load 10 true (.tmp 24), none⟩,
  ⟨(some 7), .alloc 52 (.agg #[(.int .i64 0), (.int .i64 0), (.int .i64 0), (.int .i64 0), (.int .i64 0), (.int .i64 0), (.int .i64 0), (.int .i64 0), (.int .i64 0), (.int .i64 0)]), none⟩,
  ⟨none, .store 10 (.tmp 7) (.tmp 25), none⟩]
def d30r7 : List GOp := [
  ⟨(some 26), .mv (.tmp 1), none⟩,
  ⟨(some 27), .load 10 true (.tmp 7), none⟩,
  ⟨(some 28), .callv (.tmp 26) [(.tmp 27)], none⟩,
  ⟨(some 29), .un .not (.tmp 28), none⟩]
def d30r8 : List GOp := [
  ⟨(some 30), .mv (.tmp 0), none⟩,
  ⟨(some 31), .mv (.tmp 5), none⟩,
  ⟨(some 32), .load 10 true (.tmp 7), none⟩,
  ⟨(some 33), .idxA 10 (.tmp 30) (.tmp 31), none⟩,
  ⟨none, .store 10 (.tmp 33) (.tmp 32), none⟩]
def d30r9 : List GOp := [
  ⟨(some 34), .mv (.tmp 5), none⟩,
  ⟨(some 35), .bin .add (.tmp 34) (.const (.int .i64 1)), none⟩,
  ⟨(some 5), .mv (.tmp 35), none⟩]
def d30r10 : List GOp := [
  ⟨(some 20), .mv (.tmp 6), none⟩,
  ⟨(some 21), .bin .add (.tmp 20) (.const (.int .i64 1)), none⟩,
  ⟨(some 6), .mv (.tmp 21), none⟩]
def d30l11 : DC := .seq (.seq (.reg d30r5) (.cond (.tmp 19) (.skip) (.exit 0))) (.seq (.block 1 (.seq (.reg d30r6) (.seq (.reg d30r7) (.cond (.tmp 29) (.seq (.reg d30r8) (.reg d30r9)) (.skip))))) (.reg d30r10))
def d30r12 : List GOp := [
  ⟨(some 36), .mv (.tmp 0), none⟩,
  ⟨(some 37), .mv (.tmp 5), none⟩,
  ⟨(some 38), .slc 10 (.tmp 36) (some (.tmp 37)) none, none⟩,
  ⟨none, .clr 10 (.agg #[(.int .i64 0), (.int .i64 0), (.int .i64 0), (.int .i64 0), (.int .i64 0), (.int .i64 0), (.int .i64 0), (.int .i64 0), (.int .i64 0), (.int .i64 0)]) (.tmp 38), none⟩]
def d30r13 : List GOp := [
  ⟨(some 39), .mv (.tmp 0), none⟩,
  ⟨(some 40), .mv (.tmp 5), none⟩,
  ⟨(some 41), .slc 10 (.tmp 39) none (some (.tmp 40)), none⟩,
  ⟨(some 4), .mv (.tmp 41), none⟩]
def d30c : DC := .seq (.reg d30r0) (.seq (.reg d30r1) (.seq (.seq (.reg d30r2) (.cond (.tmp 12) (.seq (.reg d30r3) (.ret)) (.skip))) (.seq (.seq (.reg d30r4) (.block 0 (.loop d30l11))) (.seq (.reg d30r12) (.seq (.reg d30r13) (.ret))))))
def d30 : DFn := ⟨42, d30c, [.tmp 4]⟩
theorem d30_ok : compF Try.prog 30 = some d30 := by kernel_rfl
/- slices.Compact[[]int,int] -/
def d37r0 : List GOp := [
  ⟨(some 2), .mv (.const (.slice none 0 0)), none⟩]
def d37r1 : List GOp := [
  ⟨(some 6), .mv (.tmp 0), none⟩,
  ⟨(some 7), .len false (.tmp 6), none⟩,
  ⟨(some 8), .bin .lss (.tmp 7) (.const (.int .i64 2)), none⟩]
def d37r2 : List GOp := [
  ⟨(some 9), .mv (.tmp 0), none⟩,
  ⟨(some 2), .mv (.tmp 9), none⟩]
def d37r3 : List GOp := [
  ⟨(some 3), .mv (.const (.int .i64 1)), none⟩]
def d37r4 : List GOp := [
  ⟨(some 10), .mv (.tmp 3), none⟩,
  ⟨(some 11), .mv (.tmp 0), none⟩,
  ⟨(some 12), .len false (.tmp 11), none⟩,
  ⟨(some 13), .bin .lss (.tmp 10) (.tmp 12), none⟩]
def d37r5 : List GOp := [
  ⟨(some 16), .mv (.tmp 0), none⟩,
  ⟨(some 17), .mv (.tmp 3), none⟩,
  ⟨(some 18), .idxA 1 (.tmp 16) (.tmp 17), none⟩,
  ⟨(some 19), .load 1 false (.tmp 18), none⟩,
  ⟨(some 20), .mv (.tmp 0), none⟩,
  ⟨(some 21), .mv (.tmp 3), none⟩,
  ⟨(some 22), .bin .sub (.tmp 21) (.const (.int .i64 1)), none⟩,
  ⟨(some 23), .idxA 1 (.tmp 20) (.tmp 22), none⟩,
  ⟨(some 24), .load 1 false (.tmp 23), none⟩,
  ⟨(some 25), .bin .eql (.tmp 19) (.tmp 24), none⟩]
def d37r6 : List GOp := [
  ⟨(some 26), .mv (.tmp 0), none⟩,
  ⟨(some 27), .mv (.tmp 3), none⟩,
  ⟨(some 28), .slc 1 (.tmp 26) (some (.tmp 27)) none, none⟩,
  ⟨(some 4), .mv (.tmp 28), none⟩]
def d37r7 : List GOp := [
  ⟨(some 5), .mv (.const (.int .i64 1)), none⟩]
def d37r8 : List GOp := [
  ⟨(some 29), .mv (.tmp 5), none⟩,
  ⟨(some 30), .mv (.tmp 4), none⟩,
  ⟨(some 31), .len false (.tmp 30), none⟩,
  ⟨(some 32), .bin .lss (.tmp 29) (.tmp 31), none⟩]
def d37r9 : List GOp := [
  ⟨(some 35), .mv (.tmp 4), none⟩,
  ⟨(some 36), .mv (.tmp 5), none⟩,
  ⟨(some 37), .idxA 1 (.tmp 35) (.tmp 36), none⟩,
  ⟨(some 38), .load 1 false (.tmp 37), none⟩,
  ⟨(some 39), .mv (.tmp 4), none⟩,
  ⟨(some 40), .mv (.tmp 5), none⟩,
  ⟨(some 41), .bin .sub (.tmp 40) (.const (.int .i64 1)), none⟩,
  ⟨(some 42), .idxA 1 (.tmp 39) (.tmp 41), none⟩,
  ⟨(some 43), .load 1 false (.tmp 42), none⟩,
  ⟨(some 44), .bin .neq (.tmp 38) (.tmp 43), none⟩]
def d37r10 : List GOp := [
  ⟨(some 45), .mv (.tmp 0), none⟩,
  ⟨(some 46), .mv (.tmp 3), none⟩,
  ⟨(some 47), .mv (.tmp 4), none⟩,
  ⟨(some 48), .mv (.tmp 5), none⟩,
  ⟨(some 49), .idxA 1 (.tmp 47) (.tmp 48), none⟩,
  ⟨(some 50), .load 1 false (.tmp 49), none⟩,
  ⟨(some 51), .idxA 1 (.tmp 45) (.tmp 46), none⟩,
  ⟨none, .store 1 (.tmp 51) (.tmp 50), none⟩]
def d37r11 : List GOp := [
  ⟨(some 52), .mv (.tmp 3), none⟩,
  ⟨(some 53), .bin .add (.tmp 52) (.const (.int .i64 1)), none⟩,
  ⟨(some 3), .mv (.tmp 53), none⟩]
def d37r12 : List GOp := [
  ⟨(some 33), .mv (.tmp 5), none⟩,
  ⟨(some 34), .bin .add (.tmp 33) (.const (.int .i64 1)), none⟩,
  ⟨(some 5), .mv (.tmp 34), none⟩]
def d37l13 : DC := .seq (.seq (.reg d37r8) (.cond (.tmp 32) (.skip) (.exit 2))) (.seq (.block 3 (.seq (.par d37r9) (.cond (.tmp 44) (.seq (.reg d37r10) (.reg d37r11)) (.skip)))) (.reg d37r12))
def d37r14 : List GOp := [
  ⟨(some 54), .mv (.tmp 0), none⟩,
  ⟨(some 55), .mv (.tmp 3), none⟩,
  ⟨(some 56), .slc 1 (.tmp 54) (some (.tmp 55)) none, none⟩,
  ⟨none, .clr 1 (.int .i64 0) (.tmp 56), none⟩]
def d37r15 : List GOp := [
  ⟨(some 57), .mv (.tmp 0), none⟩,
  ⟨(some 58), .mv (.tmp 3), none⟩,
  ⟨(some 59), .slc 1 (.tmp 57) none (some (.tmp 58)), none⟩,
  ⟨(some 2), .mv (.tmp 59), none⟩]
def d37r16 : List GOp := [
  ⟨(some 14), .mv (.tmp 3), none⟩,
  ⟨(some 15), .bin .add (.tmp 14) (.const (.int .i64 1)), none⟩,
  ⟨(some 3), .mv (.tmp 15), none⟩]
def d37l17 : DC := .seq (.seq (.reg d37r4) (.cond (.tmp 13) (.skip) (.exit 0))) (.seq (.block 1 (.seq (.par d37r5) (.cond (.tmp 25) (.seq (.reg d37r6) (.seq (.seq (.reg d37r7) (.block 2 (.loop d37l13))) (.seq (.reg d37r14) (.seq (.reg d37r15) (.ret))))) (.skip)))) (.reg d37r16))
def d37r18 : List GOp := [
  ⟨(some 60), .mv (.tmp 0), none⟩,
  ⟨(some 2), .mv (.tmp 60), none⟩]
def d37c : DC := .seq (.reg d37r0) (.seq (.seq (.reg d37r1) (.cond (.tmp 8) (.seq (.reg d37r2) (.ret)) (.skip))) (.seq (.seq (.reg d37r3) (.block 0 (.loop d37l17))) (.seq (.reg d37r18) (.ret))))
def d37 : DFn := ⟨61, d37c, [.tmp 2]⟩
theorem d37_ok : compF Try.prog 37 = some d37 := by kernel_rfl
end Go.SX.Runs
namespace Go.SX.Runs
open Go Go.SX Go.Proofs
set_option maxRecDepth 100000
/- foyer/runs.Singles -/
def d20r0 : List GOp := [
  ⟨(some 6), .mv (.const (.slice none 0 0)), none⟩]
def d20r1 : List GOp := [
  ⟨(some 15), .mv (.tmp 0), none⟩,
  ⟨(some 16), .len false (.tmp 15), none⟩,
  ⟨(some 17), .mks 4 1 1 (.bool false) (.tmp 16) (.tmp 16), none⟩,
  ⟨(some 7), .mv (.tmp 17), none⟩]
def d20r2 : List GOp := [
  ⟨(some 18), .mv (.tmp 0), none⟩,
  ⟨(some 19), .len false (.tmp 18), none⟩,
  ⟨(some 20), .mv (.const (.int .i64 0)), none⟩]
def d20r3 : List GOp := [
  ⟨(some 21), .bin .lss (.tmp 20) (.tmp 19), none⟩]
def d20r4 : List GOp := [
  ⟨(some 22), .mv (.tmp 20), none⟩,
  ⟨(some 8), .mv (.tmp 22), none⟩]
def d20r5 : List GOp := [
  ⟨(some 23), .mv (.tmp 7), none⟩,
  ⟨(some 24), .mv (.tmp 8), none⟩,
  ⟨(some 25), .mv (.tmp 1), none⟩,
  ⟨(some 26), .mv (.tmp 8), none⟩,
  ⟨(some 27), .call 32 [(.tmp 25), (.tmp 26)], none⟩,
  ⟨(some 28), .mv (.tmp 27), none⟩,
  ⟨(some 29), .mv (.tmp 2), (some (28, false))⟩,
  ⟨(some 30), .mv (.tmp 8), (some (28, false))⟩,
  ⟨(some 31), .call 39 [(.tmp 29), (.tmp 30)], (some (28, false))⟩,
  ⟨(some 32), .pick (.tmp 28) (.const (.bool true)) (.tmp 31), none⟩,
  ⟨(some 33), .idxA 1 (.tmp 23) (.tmp 24), none⟩,
  ⟨none, .store 1 (.tmp 33) (.tmp 32), none⟩]
def d20r6 : List GOp := [
  ⟨(some 34), .bin .add (.tmp 20) (.const (.int .i64 1)), none⟩,
  ⟨(some 20), .mv (.tmp 34), none⟩]
def d20l7 : DC := .seq (.reg d20r3) (.seq (.cond (.tmp 21) (.skip) (.exit 0)) (.seq (.block 1 (.seq (.reg d20r4) (.reg d20r5))) (.reg d20r6)))
def d20r8 : List GOp := [
  ⟨(some 35), .mkm (.int .i64) false, none⟩,
  ⟨(some 9), .mv (.tmp 35), none⟩]
def d20r9 : List GOp := [
  ⟨(some 36), .mv (.tmp 0), none⟩,
  ⟨(some 37), .mv (.tmp 1), none⟩,
  ⟨(some 38), .call 15 [(.tmp 36), (.tmp 37)], none⟩,
  ⟨(some 39), .len false (.tmp 38), none⟩,
  ⟨(some 40), .mv (.const (.int .i64 0)), none⟩]
def d20r10 : List GOp := [
  ⟨(some 41), .bin .lss (.tmp 40) (.tmp 39), none⟩]
def d20r11 : List GOp := [
  ⟨(some 42), .idxA 1 (.tmp 38) (.tmp 40), none⟩,
  ⟨(some 43), .load 1 false (.tmp 42), none⟩,
  ⟨(some 11), .mv (.tmp 43), none⟩]
def d20r12 : List GOp := [
  ⟨(some 44), .mv (.tmp 9), none⟩,
  ⟨(some 45), .mv (.tmp 11), none⟩,
  ⟨(some 46), .idxA 1 (.tmp 45) (.const (.int .i64 0)), none⟩,
  ⟨(some 47), .load 1 false (.tmp 46), none⟩,
  ⟨(some 48), .mv (.tmp 11), none⟩,
  ⟨(some 49), .len false (.tmp 48), none⟩,
  ⟨none, .mset (.int .i64) false (.tmp 44) (.tmp 47) (.tmp 49), none⟩]
def d20r13 : List GOp := [
  ⟨(some 50), .bin .add (.tmp 40) (.const (.int .i64 1)), none⟩,
  ⟨(some 40), .mv (.tmp 50), none⟩]
def d20l14 : DC := .seq (.reg d20r10) (.seq (.cond (.tmp 41) (.skip) (.exit 2)) (.seq (.block 3 (.seq (.reg d20r11) (.reg d20r12))) (.reg d20r13)))
def d20r15 : List GOp := [
  ⟨(some 12), .mv (.const (.slice none 0 0)), none⟩]
def d20r16 : List GOp := [
  ⟨(some 51), .mv (.tmp 0), none⟩,
  ⟨(some 52), .mv (.tmp 7), none⟩,
  ⟨(some 53), .call 15 [(.tmp 51), (.tmp 52)], none⟩,
  ⟨(some 54), .len false (.tmp 53), none⟩,
  ⟨(some 55), .mv (.const (.int .i64 0)), none⟩]
def d20r17 : List GOp := [
  ⟨(some 56), .bin .lss (.tmp 55) (.tmp 54), none⟩]
def d20r18 : List GOp := [
  ⟨(some 57), .idxA 1 (.tmp 53) (.tmp 55), none⟩,
  ⟨(some 58), .load 1 false (.tmp 57), none⟩,
  ⟨(some 14), .mv (.tmp 58), none⟩]
def d20r19 : List GOp := [
  ⟨(some 59), .mv (.tmp 14), none⟩,
  ⟨(some 60), .len false (.tmp 59), none⟩,
  ⟨(some 61), .bin .eql (.tmp 60) (.const (.int .i64 1)), none⟩,
  ⟨(some 62), .mv (.tmp 61), none⟩,
  ⟨(some 63), .mv (.tmp 9), (some (62, true))⟩,
  ⟨(some 64), .mv (.tmp 14), (some (62, true))⟩,
  ⟨(some 65), .idxA 1 (.tmp 64) (.const (.int .i64 0)), (some (62, true))⟩,
  ⟨(some 66), .load 1 false (.tmp 65), (some (62, true))⟩,
  ⟨(some 67), .mget (.int .i64) false false (.int .i64 0) (.tmp 63) (.tmp 66), (some (62, true))⟩,
  ⟨(some 68), .bin .neq (.tmp 67) (.const (.int .i64 1)), (some (62, true))⟩,
  ⟨(some 69), .pick (.tmp 62) (.tmp 68) (.const (.bool false)), none⟩]
def d20r20 : List GOp := [
  ⟨(some 70), .mv (.tmp 12), none⟩,
  ⟨(some 71), .mv (.tmp 14), none⟩,
  ⟨(some 72), .idxA 1 (.tmp 71) (.const (.int .i64 0)), none⟩,
  ⟨(some 73), .load 1 false (.tmp 72), none⟩,
  ⟨(some 74), .bslice 3 1 1 (.int .i64 0) [(0, (.tmp 73))], none⟩,
  ⟨(some 75), .app 3 1 8 (.int .i64 0) (.tmp 70) (.tmp 74), none⟩,
  ⟨(some 12), .mv (.tmp 75), none⟩]
def d20r21 : List GOp := [
  ⟨(some 76), .bin .add (.tmp 55) (.const (.int .i64 1)), none⟩,
  ⟨(some 55), .mv (.tmp 76), none⟩]
def d20l22 : DC := .seq (.reg d20r17) (.seq (.cond (.tmp 56) (.skip) (.exit 4)) (.seq (.block 5 (.seq (.reg d20r18) (.seq (.reg d20r19) (.cond (.tmp 69) (.reg d20r20) (.skip))))) (.reg d20r21)))
def d20r23 : List GOp := [
  ⟨(some 77), .mv (.tmp 12), none⟩,
  ⟨(some 6), .mv (.tmp 77), none⟩]
def d20c : DC := .seq (.reg d20r0) (.seq (.reg d20r1) (.seq (.seq (.reg d20r2) (.block 0 (.loop d20l7))) (.seq (.reg d20r8) (.seq (.seq (.reg d20r9) (.block 2 (.loop d20l14))) (.seq (.reg d20r15) (.seq (.seq (.reg d20r16) (.block 4 (.loop d20l22))) (.seq (.reg d20r23) (.ret))))))))
def d20 : DFn := ⟨78, d20c, [.tmp 6]⟩
theorem d20_ok : compF Try.prog 20 = some d20 := by kernel_rfl
end Go.SX.Runs
