/- Parts of the proof. -/
import Derived.Test.YtllbabjgpdmblaaZClT
import Derived.Test.YtllbabjgpdmblaaZCl11
set_option linter.unusedSimpArgs false
set_option linter.unusedVariables false
namespace Go.SX.Cl
open Go Go.SX Go.Proofs
set_option maxRecDepth 100000
def c36r0 : List GOp := [
 gv 5 (.box 41 (.tmp 2))]
def c36r1 : List GOp := [
 gv 6 (.mv (.tmp 0)),
 gv 7 (.nilck (.tmp 6)),
 gv 8 (.fadd 19 (.tmp 7)),
 gv 9 (.load 1 false (.tmp 8)),
 gv 10 (.bin .lss (.tmp 9) (.const (.int .i64 0)))]
def c36r2 : List GOp := [
 gv 11 (.mv (.tmp 0)),
 gv 12 (.mv (.tmp 1)),
 gv 13 (.nilck (.tmp 11)),
 gv 14 (.fadd 19 (.tmp 13)),
 ⟨none, .store 1 (.tmp 14) (.tmp 12), none⟩]
def c36r3 : List GOp := [
 gv 15 (.fadd 3 (.tmp 5)),
 gv 16 (.load 1 false (.tmp 15)),
 gv 17 (.bin .gtr (.tmp 16) (.const (.int .i64 0))),
 gv 18 (.mv (.tmp 17)),
 gw 19 18 true (.mv (.tmp 0)),
 gw 20 18 true (.nilck (.tmp 19)),
 gw 21 18 true (.fadd 0 (.tmp 20)),
 gw 22 18 true (.fadd 3 (.tmp 21)),
 gw 23 18 true (.load 1 false (.tmp 22)),
 gw 24 18 true (.bin .eql (.tmp 23) (.const (.int .i64 0))),
 gw 25 18 true (.mv (.tmp 24)),
 gw 26 25 false (.fadd 3 (.tmp 5)),
 gw 27 25 false (.load 1 false (.tmp 26)),
 gw 28 25 false (.mv (.tmp 0)),
 gw 29 25 false (.nilck (.tmp 28)),
 gw 30 25 false (.fadd 0 (.tmp 29)),
 gw 31 25 false (.fadd 3 (.tmp 30)),
 gw 32 25 false (.load 1 false (.tmp 31)),
 gw 33 25 false (.bin .lss (.tmp 27) (.tmp 32)),
 gw 34 18 true (.pick (.tmp 25) (.const (.bool true)) (.tmp 33)),
 gv 35 (.pick (.tmp 18) (.tmp 34) (.const (.bool false)))]
def c36r4 : List GOp := [
 gv 36 (.mv (.tmp 0)),
 gv 37 (.fadd 3 (.tmp 5)),
 gv 38 (.load 1 false (.tmp 37)),
 gv 39 (.nilck (.tmp 36)),
 gv 40 (.fadd 0 (.tmp 39)),
 gv 41 (.fadd 3 (.tmp 40)),
 ⟨none, .store 1 (.tmp 41) (.tmp 38), none⟩]
def c36 : EFn := ⟨42, .seq (.reg c36r0) (.join (.seq (.reg c36r1) (.cond (.tmp 10) (.reg c36r2) (.skip))) (.join (.par true true true 18 c36r3) (.cond (.tmp 35) (.reg c36r4) (.skip)))), []⟩
theorem c36_ok : compF Try.prog 36 = some c36.er := by kernel_rfl
def c37r0 : List GOp := [
 gv 5 (.box 41 (.tmp 2))]
def c37r1 : List GOp := [
 gv 6 (.mv (.tmp 0)),
 gv 7 (.nilck (.tmp 6)),
 gv 8 (.fadd 20 (.tmp 7)),
 gv 9 (.load 1 false (.tmp 8)),
 gv 10 (.bin .lss (.tmp 9) (.const (.int .i64 0)))]
def c37r2 : List GOp := [
 gv 11 (.mv (.tmp 0)),
 gv 12 (.mv (.tmp 1)),
 gv 13 (.nilck (.tmp 11)),
 gv 14 (.fadd 20 (.tmp 13)),
 ⟨none, .store 1 (.tmp 14) (.tmp 12), none⟩]
def c37 : EFn := ⟨15, .seq (.reg c37r0) (.seq (.reg c37r1) (.cond (.tmp 10) (.reg c37r2) (.skip))), []⟩
theorem c37_ok : compF Try.prog 37 = some c37.er := by kernel_rfl
def c38r0 : List GOp := [
 gv 5 (.box 41 (.tmp 2))]
def c38r1 : List GOp := [
 gv 6 (.mv (.tmp 0)),
 gv 7 (.nilck (.tmp 6)),
 gv 8 (.fadd 16 (.tmp 7)),
 gv 9 (.load 1 false (.tmp 8)),
 gv 10 (.un .not (.tmp 9))]
def c38r2 : List GOp := [
 gv 11 (.mv (.tmp 0)),
 gv 12 (.mv (.tmp 0)),
 gv 13 (.mv (.tmp 0)),
 gv 14 (.mv (.tmp 0)),
 gv 15 (.fadd 3 (.tmp 5)),
 gv 16 (.load 1 false (.tmp 15)),
 gv 17 (.fadd 4 (.tmp 5)),
 gv 18 (.load 2 true (.tmp 17)),
 gv 19 (.fadd 6 (.tmp 5)),
 gv 20 (.load 2 true (.tmp 19)),
 gv 21 (.nilck (.tmp 11)),
 gv 22 (.fadd 16 (.tmp 21)),
 ⟨none, .store 1 (.tmp 22) (.const (.bool true)), none⟩,
 gv 23 (.nilck (.tmp 12)),
 gv 24 (.fadd 0 (.tmp 23)),
 gv 25 (.fadd 4 (.tmp 24)),
 ⟨none, .store 1 (.tmp 25) (.tmp 16), none⟩,
 gv 26 (.nilck (.tmp 13)),
 gv 27 (.fadd 0 (.tmp 26)),
 gv 28 (.fadd 5 (.tmp 27)),
 ⟨none, .store 2 (.tmp 28) (.tmp 18), none⟩,
 gv 29 (.nilck (.tmp 14)),
 gv 30 (.fadd 0 (.tmp 29)),
 gv 31 (.fadd 7 (.tmp 30)),
 ⟨none, .store 2 (.tmp 31) (.tmp 20), none⟩]
def c38 : EFn := ⟨32, .seq (.reg c38r0) (.seq (.reg c38r1) (.cond (.tmp 10) (.hys true true 21 c38r2) (.skip))), []⟩
theorem c38_ok : compF Try.prog 38 = some c38.er := by kernel_rfl
def c39r0 : List GOp := [
 gv 5 (.box 41 (.tmp 2))]
def c39r1 : List GOp := [
 gv 6 (.mv (.tmp 0)),
 gv 7 (.nilck (.tmp 6)),
 gv 8 (.fadd 17 (.tmp 7)),
 gv 9 (.load 1 false (.tmp 8)),
 gv 10 (.un .not (.tmp 9))]
def c39r2 : List GOp := [
 gv 11 (.mv (.tmp 0)),
 gv 12 (.mv (.tmp 0)),
 gv 13 (.mv (.tmp 0)),
 gv 14 (.fadd 4 (.tmp 5)),
 gv 15 (.load 2 true (.tmp 14)),
 gv 16 (.fadd 6 (.tmp 5)),
 gv 17 (.load 2 true (.tmp 16)),
 gv 18 (.nilck (.tmp 11)),
 gv 19 (.fadd 17 (.tmp 18)),
 ⟨none, .store 1 (.tmp 19) (.const (.bool true)), none⟩,
 gv 20 (.nilck (.tmp 12)),
 gv 21 (.fadd 0 (.tmp 20)),
 gv 22 (.fadd 9 (.tmp 21)),
 ⟨none, .store 2 (.tmp 22) (.tmp 15), none⟩,
 gv 23 (.nilck (.tmp 13)),
 gv 24 (.fadd 0 (.tmp 23)),
 gv 25 (.fadd 11 (.tmp 24)),
 ⟨none, .store 2 (.tmp 25) (.tmp 17), none⟩]
def c39 : EFn := ⟨26, .seq (.reg c39r0) (.seq (.reg c39r1) (.cond (.tmp 10) (.hys true true 14 c39r2) (.skip))), []⟩
theorem c39_ok : compF Try.prog 39 = some c39.er := by kernel_rfl
def c40r0 : List GOp := [
 gv 5 (.box 41 (.tmp 2))]
def c40r1 : List GOp := [
 gv 6 (.mv (.tmp 0)),
 gv 7 (.nilck (.tmp 6)),
 gv 8 (.fadd 18 (.tmp 7)),
 gv 9 (.load 1 false (.tmp 8)),
 gv 10 (.un .not (.tmp 9))]
def c40r2 : List GOp := [
 gv 11 (.mv (.tmp 0)),
 gv 12 (.mv (.tmp 0)),
 gv 13 (.fadd 4 (.tmp 5)),
 gv 14 (.load 2 true (.tmp 13)),
 gv 15 (.nilck (.tmp 11)),
 gv 16 (.fadd 18 (.tmp 15)),
 ⟨none, .store 1 (.tmp 16) (.const (.bool true)), none⟩,
 gv 17 (.nilck (.tmp 12)),
 gv 18 (.fadd 0 (.tmp 17)),
 gv 19 (.fadd 13 (.tmp 18)),
 ⟨none, .store 2 (.tmp 19) (.tmp 14), none⟩]
def c40 : EFn := ⟨20, .seq (.reg c40r0) (.seq (.reg c40r1) (.cond (.tmp 10) (.hys true true 7 c40r2) (.skip))), []⟩
theorem c40_ok : compF Try.prog 40 = some c40.er := by kernel_rfl
def c41r0 : List GOp := [
 gv 4 (.box 41 (.tmp 1))]
def c41r1 : List GOp := [
 gv 5 (.load 1 false (.tmp 2)),
 gv 6 (.nilck (.tmp 5)),
 gv 7 (.fadd 0 (.tmp 6)),
 gv 8 (.fadd 1 (.tmp 7)),
 ⟨none, .store 1 (.tmp 8) (.const (.bool true)), none⟩]
def c41 : EFn := ⟨9, .seq (.reg c41r0) (.reg c41r1), []⟩
theorem c41_ok : compF Try.prog 41 = some c41.er := by kernel_rfl
def c42r0 : List GOp := [
 gv 4 (.box 41 (.tmp 1))]
def c42r1 : List GOp := [
 gv 5 (.load 1 false (.tmp 2)),
 gv 6 (.nilck (.tmp 5)),
 gv 7 (.fadd 0 (.tmp 6)),
 gv 8 (.fadd 2 (.tmp 7)),
 ⟨none, .store 1 (.tmp 8) (.const (.bool true)), none⟩]
def c42 : EFn := ⟨9, .seq (.reg c42r0) (.reg c42r1), []⟩
theorem c42_ok : compF Try.prog 42 = some c42.er := by kernel_rfl
def c18r0 : List GOp := [
 gv 2 (.box 24 (.tmp 0)),
 gv 3 (.box 32 (.tmp 1)),
 gv 4 (.alloc 45 (.agg #[(.bool false), (.bool false), (.bool false), oz, oz, oz, oz, oz, oz, oz, oz, oz, oz, oz, oz, oz]))]
def c18r1 : List GOp := [
 gv 11 (.build (.agg #[oz, oz]) [((1, 1), (.const (.int .i64 1)))]),
 gv 5 (.alloc 39 (.agg #[oz, oz])),
 ⟨none, .store 2 (.tmp 5) (.tmp 11), none⟩]
def c18r2 : List GOp := [
 gv 12 (.load 2 true (.tmp 5)),
 gv 13 (.load 2 true (.tmp 5)),
 gv 14 (.load 2 true (.tmp 5)),
 gv 15 (.load 2 true (.tmp 5)),
 gv 16 (.load 2 true (.tmp 5)),
 gv 17 (.build (.agg #[(.bool false), (.bool false), (.bool false), oz, oz, oz, oz, oz, oz, oz, oz, oz, oz, oz, oz, oz]) [((5, 2), (.tmp 12)), ((7, 2), (.tmp 13)), ((9, 2), (.tmp 14)), ((11, 2), (.tmp 15)), ((13, 2), (.tmp 16))]),
 gv 18 (.build (.agg #[(.bool false), (.bool false), (.bool false), oz, oz, oz, oz, oz, oz, oz, oz, oz, oz, oz, oz, oz, (.bool false), (.bool false), (.bool false), oz, oz]) [((19, 1), (.const (.int .i64 (-1)))), ((20, 1), (.const (.int .i64 (-1)))), ((0, 16), (.tmp 17))]),
 gv 19 (.box 78 (.tmp 18)),
 gv 6 (.alloc 76 (.pointer none)),
 ⟨none, .store 1 (.tmp 6) (.tmp 19), none⟩]
def c18r3 : List GOp := [
 gv 20 (.mkf (.int .i64)),
 gv 21 (.load 1 false (.tmp 6)),
 gv 22 (.mkfn (.func 36) [(.tmp 21)] []),
 ⟨none, .mset (.int .i64) false (.tmp 20) (.const (.int .i64 1)) (.tmp 22), none⟩,
 gv 23 (.load 1 false (.tmp 6)),
 gv 24 (.mkfn (.func 37) [(.tmp 23)] []),
 ⟨none, .mset (.int .i64) false (.tmp 20) (.const (.int .i64 2)) (.tmp 24), none⟩,
 gv 25 (.load 1 false (.tmp 6)),
 gv 26 (.mkfn (.func 38) [(.tmp 25)] []),
 ⟨none, .mset (.int .i64) false (.tmp 20) (.const (.int .i64 3)) (.tmp 26), none⟩,
 gv 27 (.load 1 false (.tmp 6)),
 gv 28 (.mkfn (.func 39) [(.tmp 27)] []),
 ⟨none, .mset (.int .i64) false (.tmp 20) (.const (.int .i64 4)) (.tmp 28), none⟩,
 gv 29 (.load 1 false (.tmp 6)),
 gv 30 (.mkfn (.func 40) [(.tmp 29)] []),
 ⟨none, .mset (.int .i64) false (.tmp 20) (.const (.int .i64 5)) (.tmp 30), none⟩,
 gv 31 (.mkfn (.func 41) [] [(.tmp 6)]),
 ⟨none, .mset (.int .i64) false (.tmp 20) (.const (.int .i64 6)) (.tmp 31), none⟩,
 gv 32 (.mkfn (.func 42) [] [(.tmp 6)]),
 ⟨none, .mset (.int .i64) false (.tmp 20) (.const (.int .i64 7)) (.tmp 32), none⟩,
 gv 33 (.mv (.tmp 20)),
 gv 7 (.mv (.tmp 33))]
def c18r4 : List GOp := [
 gv 34 (.fadd 0 (.tmp 2)),
 gv 35 (.load 1 false (.tmp 34)),
 gv 36 (.len false (.tmp 35)),
 gv 37 (.mv (.const (.int .i64 0)))]
def c18r5 : List GOp := [
 gv 38 (.bin .lss (.tmp 37) (.tmp 36))]
def c18r6 : List GOp := [
 gv 39 (.mv (.tmp 37)),
 gv 40 (.idxA 8 (.tmp 35) (.tmp 37)),
 gv 41 (.load 8 true (.tmp 40)),
 gv 9 (.alloc 41 (.agg #[oz, (.string ⟨#[]⟩), (.slice none 0 0), oz, oz, oz, oz, oz])),
 gv 8 (.mv (.tmp 39)),
 ⟨none, .store 8 (.tmp 9) (.tmp 41), none⟩]
def c18r7 : List GOp := [
 gv 42 (.mv (.tmp 7)),
 gv 43 (.fadd 0 (.tmp 9)),
 gv 44 (.load 1 false (.tmp 43)),
 gv 45 (.mget (.int .i64) false false .nilFunc (.tmp 42) (.tmp 44)),
 gv 10 (.mv (.tmp 45))]
def c18r8 : List GOp := [
 gv 46 (.mv (.tmp 10)),
 gv 47 (.fnil true (.tmp 46) (.const .nilFunc)),
 gv 48 (.mv (.tmp 47)),
 gw 49 48 true (.load 8 true (.tmp 9)),
 gw 50 48 true (.load 10 true (.tmp 3)),
 gw 51 48 true (.call 15 [(.tmp 49), (.tmp 50)]),
 gv 52 (.pick (.tmp 48) (.tmp 51) (.const (.bool false)))]
def c18r9 : List GOp := [
 gv 53 (.mv (.tmp 10)),
 gv 54 (.mv (.tmp 8)),
 gv 55 (.load 8 true (.tmp 9)),
 gv 56 (.callv (.tmp 53) [(.tmp 54), (.tmp 55)])]
def c18r10 : List GOp := [
 gv 57 (.bin .add (.tmp 37) (.const (.int .i64 1))),
 gv 37 (.mv (.tmp 57))]
def c18l11 : DE := .seq (.reg c18r5) (.seq (.cond (.tmp 38) (.skip) (.exit 0)) (.join (.block 1 (.seq (.reg c18r6) (.seq (.reg c18r7) (.join (.reg c18r8) (.cond (.tmp 52) (.reg c18r9) (.skip)))))) (.reg c18r10)))
def c18r12 : List GOp := [
 gv 58 (.load 1 false (.tmp 6)),
 gv 59 (.load 1 false (.tmp 6)),
 gv 60 (.nilck (.tmp 59)),
 gv 61 (.fadd 19 (.tmp 60)),
 gv 62 (.load 1 false (.tmp 61)),
 gv 63 (.bin .geq (.tmp 62) (.const (.int .i64 0))),
 gv 64 (.mv (.tmp 63)),
 gw 65 64 true (.load 1 false (.tmp 6)),
 gw 66 64 true (.nilck (.tmp 65)),
 gw 67 64 true (.fadd 16 (.tmp 66)),
 gw 68 64 true (.load 1 false (.tmp 67)),
 gv 69 (.pick (.tmp 64) (.tmp 68) (.const (.bool false))),
 gv 70 (.mv (.tmp 69)),
 gw 71 70 true (.load 1 false (.tmp 6)),
 gw 72 70 true (.nilck (.tmp 71)),
 gw 73 70 true (.fadd 20 (.tmp 72)),
 gw 74 70 true (.load 1 false (.tmp 73)),
 gw 75 70 true (.bin .lss (.tmp 74) (.const (.int .i64 0))),
 gv 76 (.pick (.tmp 70) (.tmp 75) (.const (.bool false))),
 gv 77 (.nilck (.tmp 58)),
 gv 78 (.fadd 0 (.tmp 77)),
 gv 79 (.fadd 0 (.tmp 78))]
def c18r12z : GOp := ⟨none, .store 1 (.tmp 79) (.tmp 76), none⟩
def c18r13 : List GOp := [
 gv 80 (.load 1 false (.tmp 6)),
 gv 81 (.load 1 false (.tmp 6)),
 gv 82 (.nilck (.tmp 81)),
 gv 83 (.fadd 19 (.tmp 82)),
 gv 84 (.load 1 false (.tmp 83)),
 gv 85 (.nilck (.tmp 80)),
 gv 86 (.fadd 0 (.tmp 85)),
 gv 87 (.fadd 15 (.tmp 86))]
def c18r13z : GOp := ⟨none, .store 1 (.tmp 87) (.tmp 84), none⟩
def c18r14 : List GOp := [
 gv 88 (.load 1 false (.tmp 6)),
 gv 89 (.nilck (.tmp 88)),
 gv 90 (.fadd 20 (.tmp 89)),
 gv 91 (.load 1 false (.tmp 90)),
 gv 92 (.bin .geq (.tmp 91) (.const (.int .i64 0)))]
def c18r15 : List GOp := [
 gv 93 (.load 1 false (.tmp 6)),
 gv 94 (.load 1 false (.tmp 6)),
 gv 95 (.nilck (.tmp 94)),
 gv 96 (.fadd 20 (.tmp 95)),
 gv 97 (.load 1 false (.tmp 96)),
 gv 98 (.nilck (.tmp 93)),
 gv 99 (.fadd 0 (.tmp 98)),
 gv 100 (.fadd 15 (.tmp 99))]
def c18r15z : GOp := ⟨none, .store 1 (.tmp 100) (.tmp 97), none⟩
def c18r16 : List GOp := [
 gv 101 (.load 1 false (.tmp 6)),
 gv 102 (.nilck (.tmp 101)),
 gv 103 (.fadd 0 (.tmp 102)),
 gv 104 (.load 16 true (.tmp 103)),
 ⟨none, .store 16 (.tmp 4) (.tmp 104), none⟩]
def c18 : EFn := ⟨105, .seq (.reg c18r0) (.seq (.reg c18r1) (.seq (.reg c18r2) (.seq (.reg c18r3) (.join (.seq (.reg c18r4) (.block 0 (.loop c18l11))) (.join (.hyl true true 19 c18r12 c18r12z) (.seq (.hyl true true 5 c18r13 c18r13z) (.join (.seq (.reg c18r14) (.cond (.tmp 92) (.hyl true true 5 c18r15 c18r15z) (.skip))) (.seq (.reg c18r16) (.ret))))))))), [.cell 4 16 true]⟩
theorem c18_ok : compF Try.prog 18 = some c18.er := by kernel_rfl
noncomputable def decide_Decide_l2 (p : Policy) (f : (A10 Int)) : (Bool × Bool × Int × Int × Int × Int × Int × Int × Int × Int × Int × Int × Int × Int × Bool × Bool × Bool × Int × Int × Int) → Option ((Bool × Bool × Int × Int × Int × Int × Int × Int × Int × Int × Int × Int × Int × Int × Bool × Bool × Bool × Int × Int × Int) ⊕ (Bool × Bool × Int × Int × Int × Int × Int × Int × Int × Int × Int × Int × Int × Int × Bool × Bool × Bool × Int × Int))
 | (Together20, Single21, Limit22, Price23, Num24, Den25, Num26, Den27, Num28, Den29, Num30, Den31, Num32, Den33, priced34, sold35, back36, allowed37, denied38, v39) =>
 bif (io.lt v39 (io.len (W eRule p.Rules))) then (
 Option.bind (
 Option.bind (idxG p.Rules v39) fun x59 =>
 bif (io.eq x59.Kind 1) then (
 Option.bind (
 Option.bind (decide_Holds_g x59 f) fun v61 =>
 some v61
 ) fun v60 =>
 bif v60 then (
 Option.bind (
 bif (io.lt allowed37 0) then (
 some v39
 ) else (
 some allowed37
 )
 ) fun allowed62 =>
 Option.bind (
 bif (io.lt 0 x59.N) then (
 bif (io.eq Limit22 0) then (
 some true
 ) else (
 some (io.lt x59.N Limit22)
 )
 ) else (
 some false
 )
 ) fun v63 =>
 bif v63 then (
 some (Together20, Single21, x59.N, Price23, Num24, Den25, Num26, Den27, Num28, Den29, Num30, Den31, Num32, Den33, priced34, sold35, back36, allowed62, denied38)
 ) else (
 some (Together20, Single21, Limit22, Price23, Num24, Den25, Num26, Den27, Num28, Den29, Num30, Den31, Num32, Den33, priced34, sold35, back36, allowed62, denied38)
 )
 ) else (
 some (Together20, Single21, Limit22, Price23, Num24, Den25, Num26, Den27, Num28, Den29, Num30, Den31, Num32, Den33, priced34, sold35, back36, allowed37, denied38)
 )
 ) else (
 bif (io.eq x59.Kind 2) then (
 Option.bind (
 Option.bind (decide_Holds_g x59 f) fun v65 =>
 some v65
 ) fun v64 =>
 bif v64 then (
 bif (io.lt denied38 0) then (
 some (Together20, Single21, Limit22, Price23, Num24, Den25, Num26, Den27, Num28, Den29, Num30, Den31, Num32, Den33, priced34, sold35, back36, allowed37, v39)
 ) else (
 some (Together20, Single21, Limit22, Price23, Num24, Den25, Num26, Den27, Num28, Den29, Num30, Den31, Num32, Den33, priced34, sold35, back36, allowed37, denied38)
 )
 ) else (
 some (Together20, Single21, Limit22, Price23, Num24, Den25, Num26, Den27, Num28, Den29, Num30, Den31, Num32, Den33, priced34, sold35, back36, allowed37, denied38)
 )
 ) else (
 bif (io.eq x59.Kind 3) then (
 Option.bind (
 Option.bind (decide_Holds_g x59 f) fun v67 =>
 some v67
 ) fun v66 =>
 bif v66 then (
 bif (io.not priced34) then (
 some (Together20, Single21, Limit22, x59.N, x59.R.Num, x59.R.Den, x59.S.Num, x59.S.Den, Num28, Den29, Num30, Den31, Num32, Den33, true, sold35, back36, allowed37, denied38)
 ) else (
 some (Together20, Single21, Limit22, Price23, Num24, Den25, Num26, Den27, Num28, Den29, Num30, Den31, Num32, Den33, priced34, sold35, back36, allowed37, denied38)
 )
 ) else (
 some (Together20, Single21, Limit22, Price23, Num24, Den25, Num26, Den27, Num28, Den29, Num30, Den31, Num32, Den33, priced34, sold35, back36, allowed37, denied38)
 )
 ) else (
 bif (io.eq x59.Kind 4) then (
 Option.bind (
 Option.bind (decide_Holds_g x59 f) fun v69 =>
 some v69
 ) fun v68 =>
 bif v68 then (
 bif (io.not sold35) then (
 some (Together20, Single21, Limit22, Price23, Num24, Den25, Num26, Den27, x59.R.Num, x59.R.Den, x59.S.Num, x59.S.Den, Num32, Den33, priced34, true, back36, allowed37, denied38)
 ) else (
 some (Together20, Single21, Limit22, Price23, Num24, Den25, Num26, Den27, Num28, Den29, Num30, Den31, Num32, Den33, priced34, sold35, back36, allowed37, denied38)
 )
 ) else (
 some (Together20, Single21, Limit22, Price23, Num24, Den25, Num26, Den27, Num28, Den29, Num30, Den31, Num32, Den33, priced34, sold35, back36, allowed37, denied38)
 )
 ) else (
 bif (io.eq x59.Kind 5) then (
 Option.bind (
 Option.bind (decide_Holds_g x59 f) fun v71 =>
 some v71
 ) fun v70 =>
 bif v70 then (
 bif (io.not back36) then (
 some (Together20, Single21, Limit22, Price23, Num24, Den25, Num26, Den27, Num28, Den29, Num30, Den31, x59.R.Num, x59.R.Den, priced34, sold35, true, allowed37, denied38)
 ) else (
 some (Together20, Single21, Limit22, Price23, Num24, Den25, Num26, Den27, Num28, Den29, Num30, Den31, Num32, Den33, priced34, sold35, back36, allowed37, denied38)
 )
 ) else (
 some (Together20, Single21, Limit22, Price23, Num24, Den25, Num26, Den27, Num28, Den29, Num30, Den31, Num32, Den33, priced34, sold35, back36, allowed37, denied38)
 )
 ) else (
 bif (io.eq x59.Kind 6) then (
 Option.bind (
 Option.bind (decide_Holds_g x59 f) fun v73 =>
 some v73
 ) fun v72 =>
 bif v72 then (
 some (true, Single21, Limit22, Price23, Num24, Den25, Num26, Den27, Num28, Den29, Num30, Den31, Num32, Den33, priced34, sold35, back36, allowed37, denied38)
 ) else (
 some (Together20, Single21, Limit22, Price23, Num24, Den25, Num26, Den27, Num28, Den29, Num30, Den31, Num32, Den33, priced34, sold35, back36, allowed37, denied38)
 )
 ) else (
 bif (io.eq x59.Kind 7) then (
 Option.bind (
 Option.bind (decide_Holds_g x59 f) fun v75 =>
 some v75
 ) fun v74 =>
 bif v74 then (
 some (Together20, true, Limit22, Price23, Num24, Den25, Num26, Den27, Num28, Den29, Num30, Den31, Num32, Den33, priced34, sold35, back36, allowed37, denied38)
 ) else (
 some (Together20, Single21, Limit22, Price23, Num24, Den25, Num26, Den27, Num28, Den29, Num30, Den31, Num32, Den33, priced34, sold35, back36, allowed37, denied38)
 )
 ) else (
 Option.bind (
 some ()
 ) fun _ =>
 some (Together20, Single21, Limit22, Price23, Num24, Den25, Num26, Den27, Num28, Den29, Num30, Den31, Num32, Den33, priced34, sold35, back36, allowed37, denied38)
 )
 )
 )
 )
 )
 )
 )
 ) fun (Together40, Single41, Limit42, Price43, Num44, Den45, Num46, Den47, Num48, Den49, Num50, Den51, Num52, Den53, priced54, sold55, back56, allowed57, denied58) =>
 some (.inl (Together40, Single41, Limit42, Price43, Num44, Den45, Num46, Den47, Num48, Den49, Num50, Den51, Num52, Den53, priced54, sold55, back56, allowed57, denied58, (io.ar .add .i64 v39 1)))
 ) else (
 some (.inr (Together20, Single21, Limit22, Price23, Num24, Den25, Num26, Den27, Num28, Den29, Num30, Den31, Num32, Den33, priced34, sold35, back36, allowed37, denied38))
 )
noncomputable def decide_Decide_g (p : Policy) (f : (A10 Int)) : Option (Decision) :=
 Option.bind (
 whileG (decide_Decide_l2 p f) (false, false, 0, 0, 0, 1, 0, 1, 0, 1, 0, 1, 0, 1, false, false, false, (-1), (-1), 0)
 ) fun (Together1, Single2, Limit3, Price4, Num5, Den6, Num7, Den8, Num9, Den10, Num11, Den12, Num13, Den14, priced15, sold16, back17, allowed18, denied19) =>
 Option.bind (
 bif (io.le 0 allowed18) then (
 bif priced15 then (
 some (io.lt denied19 0)
 ) else (
 some false
 )
 ) else (
 some false
 )
 ) fun Allowed76 =>
 Option.bind (
 bif (io.le 0 denied19) then (
 some denied19
 ) else (
 some allowed18
 )
 ) fun By77 =>
 some (Decision.mk Allowed76 Together1 Single2 Limit3 Price4 (Ratio.mk Num5 Den6) (Ratio.mk Num7 Den8) (Ratio.mk Num9 Den10) (Ratio.mk Num11 Den12) (Ratio.mk Num13 Den14) By77)
set_option maxHeartbeats 4000000 in
theorem decide_Decide_R {P : Program} (hP : P = Try.prog) (p : Policy) (f : (A10 Int)) (r : Decision) (h : decide_Decide_g p f = some r) : Fn1 P 18 [vPolicy p, vA10Ii64 f] (vDecision r) := by
 refine .walkE (hP ▸ c18_ok) fun K hK => ?_
 unfold decide_Decide_g at h
 cbv
 refine .g h (fun ((Together1, Single2, Limit3, Price4, Num5, Den6, Num7, Den8, Num9, Den10, Num11, Den12, Num13, Den14, priced15, sold16, back17, allowed18, denied19) : Bool × Bool × Int × Int × Int × Int × Int × Int × Int × Int × Int × Int × Int × Int × Bool × Bool × Bool × Int × Int) => rp 4 .top ++ [.ptr 0 0, .top, .ptr 1 0] ++ rp 98 .top) (fun ((Together1, Single2, Limit3, Price4, Num5, Den6, Num7, Den8, Num9, Den10, Num11, Den12, Num13, Den14, priced15, sold16, back17, allowed18, denied19) : Bool × Bool × Int × Int × Int × Int × Int × Int × Int × Int × Int × Int × Int × Int × Bool × Bool × Bool × Int × Int) => [.cells [ob false, ob false, ob false, oi 0, oi 0, oi 0, oi 0, oi 0, oi 0, oi 0, oi 0, oi 0, oi 0, oi 0, oi 0, oi 0] 45, .cells [.ptr 2 0] 76, .cells [ob false, ob Together1, ob Single2, oi Limit3, oi Price4, oi Num5, oi Den6, oi Num7, oi Den8, oi Num9, oi Den10, oi Num11, oi Den12, oi Num13, oi Den14, oi 0, ob priced15, ob sold16, ob back17, oi allowed18, oi denied19] 78]) (fun y hm Kn1 hKn1 => ?_) fun t h => ?_
 · have h := hm
   clear hm
   cbv
   refine .g h (fun ((Together20, Single21, Limit22, Price23, Num24, Den25, Num26, Den27, Num28, Den29, Num30, Den31, Num32, Den33, priced34, sold35, back36, allowed37, denied38, v39) : Bool × Bool × Int × Int × Int × Int × Int × Int × Int × Int × Int × Int × Int × Int × Bool × Bool × Bool × Int × Int × Int) => rp 3 .top ++ [.ptr 0 0, .ptr 1 0, .top, .ptr 2 0, .hd 4] ++ rp 27 .top ++ [.d (.sl (W eRule p.Rules)), oi (io.len (W eRule p.Rules)), oi v39] ++ rp 67 .top) (fun ((Together20, Single21, Limit22, Price23, Num24, Den25, Num26, Den27, Num28, Den29, Num30, Den31, Num32, Den33, priced34, sold35, back36, allowed37, denied38, v39) : Bool × Bool × Int × Int × Int × Int × Int × Int × Int × Int × Int × Int × Int × Int × Bool × Bool × Bool × Int × Int × Int) => [.cells (ca f) 32, .cells [ob false, ob false, ob false, oi 0, oi 0, oi 0, oi 0, oi 0, oi 0, oi 0, oi 0, oi 0, oi 0, oi 0, oi 0, oi 0] 45, .cells [.ptr 3 0] 76, .cells [ob false, ob Together20, ob Single21, oi Limit22, oi Price23, oi Num24, oi Den25, oi Num26, oi Den27, oi Num28, oi Den29, oi Num30, oi Den31, oi Num32, oi Den33, oi 0, ob priced34, ob sold35, ob back36, oi allowed37, oi denied38] 78, .mpf (.int .i64) [((Value.int .i64) 1, .clo (.func 36) [.ptr 3 0] []), ((Value.int .i64) 2, .clo (.func 37) [.ptr 3 0] []), ((Value.int .i64) 3, .clo (.func 38) [.ptr 3 0] []), ((Value.int .i64) 4, .clo (.func 39) [.ptr 3 0] []), ((Value.int .i64) 5, .clo (.func 40) [.ptr 3 0] []), ((Value.int .i64) 6, .clo (.func 41) [] [.ptr 2 0]), ((Value.int .i64) 7, .clo (.func 42) [] [.ptr 2 0])]]) (.nz (.mtE [1, 2, 5, 4, 6] ?_)) fun s x h hr2 Kn2 hKn2 => ?_
   · (cbv; repeat (refine ⟨an_, ?_⟩; cbv))
   unfold decide_Decide_l2 at h
   obtain ⟨Together20, Single21, Limit22, Price23, Num24, Den25, Num26, Den27, Num28, Den29, Num30, Den31, Num32, Den33, priced34, sold35, back36, allowed37, denied38, v39⟩ := s
   cbv
   refine brkG h ?_ ?_ <;> intro h
   · cbv
     refine .g h (fun ((Together40, Single41, Limit42, Price43, Num44, Den45, Num46, Den47, Num48, Den49, Num50, Den51, Num52, Den53, priced54, sold55, back56, allowed57, denied58) : Bool × Bool × Int × Int × Int × Int × Int × Int × Int × Int × Int × Int × Int × Int × Bool × Bool × Bool × Int × Int) => rp 3 .top ++ [.ptr 0 0, .ptr 1 0, .top, .ptr 2 0, .hd 4] ++ rp 27 .top ++ [.d (.sl (W eRule p.Rules)), oi (io.len (W eRule p.Rules)), oi v39] ++ rp 67 .top) (fun ((Together40, Single41, Limit42, Price43, Num44, Den45, Num46, Den47, Num48, Den49, Num50, Den51, Num52, Den53, priced54, sold55, back56, allowed57, denied58) : Bool × Bool × Int × Int × Int × Int × Int × Int × Int × Int × Int × Int × Int × Int × Bool × Bool × Bool × Int × Int) => [.cells (ca f) 32, .cells [ob false, ob false, ob false, oi 0, oi 0, oi 0, oi 0, oi 0, oi 0, oi 0, oi 0, oi 0, oi 0, oi 0, oi 0, oi 0] 45, .cells [.ptr 3 0] 76, .cells [ob false, ob Together40, ob Single41, oi Limit42, oi Price43, oi Num44, oi Den45, oi Num46, oi Den47, oi Num48, oi Den49, oi Num50, oi Den51, oi Num52, oi Den53, oi 0, ob priced54, ob sold55, ob back56, oi allowed57, oi denied58] 78, .mpf (.int .i64) [((Value.int .i64) 1, .clo (.func 36) [.ptr 3 0] []), ((Value.int .i64) 2, .clo (.func 37) [.ptr 3 0] []), ((Value.int .i64) 3, .clo (.func 38) [.ptr 3 0] []), ((Value.int .i64) 4, .clo (.func 39) [.ptr 3 0] []), ((Value.int .i64) 5, .clo (.func 40) [.ptr 3 0] []), ((Value.int .i64) 6, .clo (.func 41) [] [.ptr 2 0]), ((Value.int .i64) 7, .clo (.func 42) [] [.ptr 2 0])]]) (fun y hm Kn3 hKn3 => ?_) fun t h => ?_
     · have h := hm
       clear hm
       cbv
       refine .g h (fun _ => rfl) fun x59 h => ?_
       cbv
       refine brkG h ?_ ?_ <;> intro h
       · cbv
         refine .g h (fun (v60 : Bool) => rp 3 .top ++ [.ptr 0 0, .ptr 1 0, .top, .ptr 2 0, .hd 4, oi v39, .ptr 5 0, .clo (.func 36) [.ptr 3 0] []] ++ rp 24 .top ++ [.d (.sl (W eRule p.Rules)), oi (io.len (W eRule p.Rules)), oi v39] ++ rp 14 .top ++ [ob v60] ++ rp 52 .top) (fun (v60 : Bool) => [.cells (ca f) 32, .cells [ob false, ob false, ob false, oi 0, oi 0, oi 0, oi 0, oi 0, oi 0, oi 0, oi 0, oi 0, oi 0, oi 0, oi 0, oi 0] 45, .cells [.ptr 3 0] 76, .cells [ob false, ob Together20, ob Single21, oi Limit22, oi Price23, oi Num24, oi Den25, oi Num26, oi Den27, oi Num28, oi Den29, oi Num30, oi Den31, oi Num32, oi Den33, oi 0, ob priced34, ob sold35, ob back36, oi allowed37, oi denied38] 78, .mpf (.int .i64) [((Value.int .i64) 1, .clo (.func 36) [.ptr 3 0] []), ((Value.int .i64) 2, .clo (.func 37) [.ptr 3 0] []), ((Value.int .i64) 3, .clo (.func 38) [.ptr 3 0] []), ((Value.int .i64) 4, .clo (.func 39) [.ptr 3 0] []), ((Value.int .i64) 5, .clo (.func 40) [.ptr 3 0] []), ((Value.int .i64) 6, .clo (.func 41) [] [.ptr 2 0]), ((Value.int .i64) 7, .clo (.func 42) [] [.ptr 2 0])], .cells [oi x59.Kind, .d (.val (.string x59.Name)), .d (.sl (W eA10Range x59.Zones)), oi x59.N, oi x59.R.Num, oi x59.R.Den, oi x59.S.Num, oi x59.S.Den] 41]) (fun y hm Kn4 hKn4 => ?_) fun t h => ?_
         · have h := hm
           clear hm
           cbv
           refine .g h (fun v hv => decide_Holds_R hP _ _ v hv) aw_ rfl (fun _ => rfl) fun v61 h => ?_
           cbv
           obtain rfl := oj h
           refine hKn4 _ _ _ rfl (.nz (.mtE [0, 1, 2, 3, 4, 5] ?_))
           (cbv; repeat (refine ⟨an_, ?_⟩; cbv))
         obtain ⟨v60, rfl⟩ : ∃ z, z = t := ⟨_, rfl⟩
         cbv
         refine brkG h ?_ ?_ <;> intro h
         · cbv
           refine .inl (hP ▸ c36_ok) ?_
           cbv
           refine .g h (fun (allowed62 : Int) => [.ptr 3 0] ++ rp 4 .top ++ [.ptr 6 0] ++ rp 36 .top) (fun (allowed62 : Int) => [.cells (ca f) 32, .cells [ob false, ob false, ob false, oi 0, oi 0, oi 0, oi 0, oi 0, oi 0, oi 0, oi 0, oi 0, oi 0, oi 0, oi 0, oi 0] 45, .cells [.ptr 3 0] 76, .cells [ob false, ob Together20, ob Single21, oi Limit22, oi Price23, oi Num24, oi Den25, oi Num26, oi Den27, oi Num28, oi Den29, oi Num30, oi Den31, oi Num32, oi Den33, oi 0, ob priced34, ob sold35, ob back36, oi allowed62, oi denied38] 78, .mpf (.int .i64) [((Value.int .i64) 1, .clo (.func 36) [.ptr 3 0] []), ((Value.int .i64) 2, .clo (.func 37) [.ptr 3 0] []), ((Value.int .i64) 3, .clo (.func 38) [.ptr 3 0] []), ((Value.int .i64) 4, .clo (.func 39) [.ptr 3 0] []), ((Value.int .i64) 5, .clo (.func 40) [.ptr 3 0] []), ((Value.int .i64) 6, .clo (.func 41) [] [.ptr 2 0]), ((Value.int .i64) 7, .clo (.func 42) [] [.ptr 2 0])], .cells [oi x59.Kind, .d (.val (.string x59.Name)), .d (.sl (W eA10Range x59.Zones)), oi x59.N, oi x59.R.Num, oi x59.R.Den, oi x59.S.Num, oi x59.S.Den] 41, .cells [oi x59.Kind, .d (.val (.string x59.Name)), .d (.sl (W eA10Range x59.Zones)), oi x59.N, oi x59.R.Num, oi x59.R.Den, oi x59.S.Num, oi x59.S.Den] 41]) (fun y hm Kn4 hKn4 => ?_) fun t h => ?_
           · have h := hm
             clear hm
             cbv
             refine brkG h ?_ ?_ <;> intro h
             · cbv
               obtain rfl := oj h
               refine hKn4 _ _ _ rfl (.nz (.mtE [0, 1, 2, 3, 4, 5, 6] ?_))
               (cbv; repeat (refine ⟨an_, ?_⟩; cbv))
             · cbv
               obtain rfl := oj h
               refine hKn4 _ _ _ rfl (.nz (.mtE [0, 1, 2, 3, 4, 5, 6] ?_))
               (cbv; repeat (refine ⟨an_, ?_⟩; cbv))
           obtain ⟨allowed62, rfl⟩ : ∃ z, z = t := ⟨_, rfl⟩
           cbv
           refine .g h (fun (v63 : Bool) => [.ptr 3 0] ++ rp 4 .top ++ [.ptr 6 0] ++ rp 29 .top ++ [ob v63] ++ rp 6 .top) (fun (v63 : Bool) => [.cells (ca f) 32, .cells [ob false, ob false, ob false, oi 0, oi 0, oi 0, oi 0, oi 0, oi 0, oi 0, oi 0, oi 0, oi 0, oi 0, oi 0, oi 0] 45, .cells [.ptr 3 0] 76, .cells [ob false, ob Together20, ob Single21, oi Limit22, oi Price23, oi Num24, oi Den25, oi Num26, oi Den27, oi Num28, oi Den29, oi Num30, oi Den31, oi Num32, oi Den33, oi 0, ob priced34, ob sold35, ob back36, oi allowed62, oi denied38] 78, .mpf (.int .i64) [((Value.int .i64) 1, .clo (.func 36) [.ptr 3 0] []), ((Value.int .i64) 2, .clo (.func 37) [.ptr 3 0] []), ((Value.int .i64) 3, .clo (.func 38) [.ptr 3 0] []), ((Value.int .i64) 4, .clo (.func 39) [.ptr 3 0] []), ((Value.int .i64) 5, .clo (.func 40) [.ptr 3 0] []), ((Value.int .i64) 6, .clo (.func 41) [] [.ptr 2 0]), ((Value.int .i64) 7, .clo (.func 42) [] [.ptr 2 0])], .cells [oi x59.Kind, .d (.val (.string x59.Name)), .d (.sl (W eA10Range x59.Zones)), oi x59.N, oi x59.R.Num, oi x59.R.Den, oi x59.S.Num, oi x59.S.Den] 41, .cells [oi x59.Kind, .d (.val (.string x59.Name)), .d (.sl (W eA10Range x59.Zones)), oi x59.N, oi x59.R.Num, oi x59.R.Den, oi x59.S.Num, oi x59.S.Den] 41]) (fun y hm Kn4 hKn4 => ?_) fun t h => ?_
           · have h := hm
             clear hm
             cbv
             refine brkG h ?_ ?_ <;> intro h
             · cbv
               refine brkG h ?_ ?_ <;> intro h
               · cbv
                 obtain rfl := oj h
                 refine hKn4 _ _ _ rfl (.nz (.mtE [0, 1, 2, 3, 4, 5, 6] ?_))
                 (cbv; repeat (refine ⟨an_, ?_⟩; cbv))
               · cbv
                 obtain rfl := oj h
                 refine hKn4 _ _ _ rfl (.nz (.mtE [0, 1, 2, 3, 4, 5, 6] ?_))
                 (cbv; repeat (refine ⟨an_, ?_⟩; cbv))
             · cbv
               obtain rfl := oj h
               refine hKn4 _ _ _ rfl (.nz (.mtE [0, 1, 2, 3, 4, 5, 6] ?_))
               (cbv; repeat (refine ⟨an_, ?_⟩; cbv))
           obtain ⟨v63, rfl⟩ : ∃ z, z = t := ⟨_, rfl⟩
           cbv
           refine brkG h ?_ ?_ <;> intro h
           · cbv
             obtain rfl := oj h
             refine hKn3 _ _ _ rfl (.nz (.mtE [0, 1, 2, 3, 4] ?_))
             (cbv; repeat (refine ⟨an_, ?_⟩; cbv))
           · cbv
             obtain rfl := oj h
             refine hKn3 _ _ _ rfl (.nz (.mtE [0, 1, 2, 3, 4] ?_))
             (cbv; repeat (refine ⟨an_, ?_⟩; cbv))
         · cbv
           obtain rfl := oj h
           refine hKn3 _ _ _ rfl (.nz (.mtE [0, 1, 2, 3, 4] ?_))
           (cbv; repeat (refine ⟨an_, ?_⟩; cbv))
       · cbv
         refine brkG h ?_ ?_ <;> intro h
         · cbv
           refine .g h (fun (v64 : Bool) => rp 3 .top ++ [.ptr 0 0, .ptr 1 0, .top, .ptr 2 0, .hd 4, oi v39, .ptr 5 0, .clo (.func 37) [.ptr 3 0] []] ++ rp 24 .top ++ [.d (.sl (W eRule p.Rules)), oi (io.len (W eRule p.Rules)), oi v39] ++ rp 14 .top ++ [ob v64] ++ rp 52 .top) (fun (v64 : Bool) => [.cells (ca f) 32, .cells [ob false, ob false, ob false, oi 0, oi 0, oi 0, oi 0, oi 0, oi 0, oi 0, oi 0, oi 0, oi 0, oi 0, oi 0, oi 0] 45, .cells [.ptr 3 0] 76, .cells [ob false, ob Together20, ob Single21, oi Limit22, oi Price23, oi Num24, oi Den25, oi Num26, oi Den27, oi Num28, oi Den29, oi Num30, oi Den31, oi Num32, oi Den33, oi 0, ob priced34, ob sold35, ob back36, oi allowed37, oi denied38] 78, .mpf (.int .i64) [((Value.int .i64) 1, .clo (.func 36) [.ptr 3 0] []), ((Value.int .i64) 2, .clo (.func 37) [.ptr 3 0] []), ((Value.int .i64) 3, .clo (.func 38) [.ptr 3 0] []), ((Value.int .i64) 4, .clo (.func 39) [.ptr 3 0] []), ((Value.int .i64) 5, .clo (.func 40) [.ptr 3 0] []), ((Value.int .i64) 6, .clo (.func 41) [] [.ptr 2 0]), ((Value.int .i64) 7, .clo (.func 42) [] [.ptr 2 0])], .cells [oi x59.Kind, .d (.val (.string x59.Name)), .d (.sl (W eA10Range x59.Zones)), oi x59.N, oi x59.R.Num, oi x59.R.Den, oi x59.S.Num, oi x59.S.Den] 41]) (fun y hm Kn4 hKn4 => ?_) fun t h => ?_
           · have h := hm
             clear hm
             cbv
             refine .g h (fun v hv => decide_Holds_R hP _ _ v hv) aw_ rfl (fun _ => rfl) fun v65 h => ?_
             cbv
             obtain rfl := oj h
             refine hKn4 _ _ _ rfl (.nz (.mtE [0, 1, 2, 3, 4, 5] ?_))
             (cbv; repeat (refine ⟨an_, ?_⟩; cbv))
           obtain ⟨v64, rfl⟩ : ∃ z, z = t := ⟨_, rfl⟩
           cbv
           refine brkG h ?_ ?_ <;> intro h
           · cbv
             refine .inl (hP ▸ c37_ok) ?_
             cbv
             refine brkG h ?_ ?_ <;> intro h
             · cbv
               obtain rfl := oj h
               refine hKn3 _ _ _ rfl (.nz (.mtE [0, 1, 2, 3, 4] ?_))
               (cbv; repeat (refine ⟨an_, ?_⟩; cbv))
             · cbv
               obtain rfl := oj h
               refine hKn3 _ _ _ rfl (.nz (.mtE [0, 1, 2, 3, 4] ?_))
               (cbv; repeat (refine ⟨an_, ?_⟩; cbv))
           · cbv
             obtain rfl := oj h
             refine hKn3 _ _ _ rfl (.nz (.mtE [0, 1, 2, 3, 4] ?_))
             (cbv; repeat (refine ⟨an_, ?_⟩; cbv))
         · cbv
           refine brkG h ?_ ?_ <;> intro h
           · cbv
             refine .g h (fun (v66 : Bool) => rp 3 .top ++ [.ptr 0 0, .ptr 1 0, .top, .ptr 2 0, .hd 4, oi v39, .ptr 5 0, .clo (.func 38) [.ptr 3 0] []] ++ rp 24 .top ++ [.d (.sl (W eRule p.Rules)), oi (io.len (W eRule p.Rules)), oi v39] ++ rp 14 .top ++ [ob v66] ++ rp 52 .top) (fun (v66 : Bool) => [.cells (ca f) 32, .cells [ob false, ob false, ob false, oi 0, oi 0, oi 0, oi 0, oi 0, oi 0, oi 0, oi 0, oi 0, oi 0, oi 0, oi 0, oi 0] 45, .cells [.ptr 3 0] 76, .cells [ob false, ob Together20, ob Single21, oi Limit22, oi Price23, oi Num24, oi Den25, oi Num26, oi Den27, oi Num28, oi Den29, oi Num30, oi Den31, oi Num32, oi Den33, oi 0, ob priced34, ob sold35, ob back36, oi allowed37, oi denied38] 78, .mpf (.int .i64) [((Value.int .i64) 1, .clo (.func 36) [.ptr 3 0] []), ((Value.int .i64) 2, .clo (.func 37) [.ptr 3 0] []), ((Value.int .i64) 3, .clo (.func 38) [.ptr 3 0] []), ((Value.int .i64) 4, .clo (.func 39) [.ptr 3 0] []), ((Value.int .i64) 5, .clo (.func 40) [.ptr 3 0] []), ((Value.int .i64) 6, .clo (.func 41) [] [.ptr 2 0]), ((Value.int .i64) 7, .clo (.func 42) [] [.ptr 2 0])], .cells [oi x59.Kind, .d (.val (.string x59.Name)), .d (.sl (W eA10Range x59.Zones)), oi x59.N, oi x59.R.Num, oi x59.R.Den, oi x59.S.Num, oi x59.S.Den] 41]) (fun y hm Kn4 hKn4 => ?_) fun t h => ?_
             · have h := hm
               clear hm
               cbv
               refine .g h (fun v hv => decide_Holds_R hP _ _ v hv) aw_ rfl (fun _ => rfl) fun v67 h => ?_
               cbv
               obtain rfl := oj h
               refine hKn4 _ _ _ rfl (.nz (.mtE [0, 1, 2, 3, 4, 5] ?_))
               (cbv; repeat (refine ⟨an_, ?_⟩; cbv))
             obtain ⟨v66, rfl⟩ : ∃ z, z = t := ⟨_, rfl⟩
             cbv
             refine brkG h ?_ ?_ <;> intro h
             · cbv
               refine .inl (hP ▸ c38_ok) ?_
               cbv
               refine brkG h ?_ ?_ <;> intro h
               · cbv
                 refine .g [3] ?_
                 cbv
                 obtain rfl := oj h
                 refine hKn3 _ _ _ rfl (.nz (.mtE [0, 1, 2, 3, 4] ?_))
                 (cbv; repeat (refine ⟨an_, ?_⟩; cbv))
               · cbv
                 obtain rfl := oj h
                 refine hKn3 _ _ _ rfl (.nz (.mtE [0, 1, 2, 3, 4] ?_))
                 (cbv; repeat (refine ⟨an_, ?_⟩; cbv))
             · cbv
               obtain rfl := oj h
               refine hKn3 _ _ _ rfl (.nz (.mtE [0, 1, 2, 3, 4] ?_))
               (cbv; repeat (refine ⟨an_, ?_⟩; cbv))
           · cbv
             refine brkG h ?_ ?_ <;> intro h
             · cbv
               refine .g h (fun (v68 : Bool) => rp 3 .top ++ [.ptr 0 0, .ptr 1 0, .top, .ptr 2 0, .hd 4, oi v39, .ptr 5 0, .clo (.func 39) [.ptr 3 0] []] ++ rp 24 .top ++ [.d (.sl (W eRule p.Rules)), oi (io.len (W eRule p.Rules)), oi v39] ++ rp 14 .top ++ [ob v68] ++ rp 52 .top) (fun (v68 : Bool) => [.cells (ca f) 32, .cells [ob false, ob false, ob false, oi 0, oi 0, oi 0, oi 0, oi 0, oi 0, oi 0, oi 0, oi 0, oi 0, oi 0, oi 0, oi 0] 45, .cells [.ptr 3 0] 76, .cells [ob false, ob Together20, ob Single21, oi Limit22, oi Price23, oi Num24, oi Den25, oi Num26, oi Den27, oi Num28, oi Den29, oi Num30, oi Den31, oi Num32, oi Den33, oi 0, ob priced34, ob sold35, ob back36, oi allowed37, oi denied38] 78, .mpf (.int .i64) [((Value.int .i64) 1, .clo (.func 36) [.ptr 3 0] []), ((Value.int .i64) 2, .clo (.func 37) [.ptr 3 0] []), ((Value.int .i64) 3, .clo (.func 38) [.ptr 3 0] []), ((Value.int .i64) 4, .clo (.func 39) [.ptr 3 0] []), ((Value.int .i64) 5, .clo (.func 40) [.ptr 3 0] []), ((Value.int .i64) 6, .clo (.func 41) [] [.ptr 2 0]), ((Value.int .i64) 7, .clo (.func 42) [] [.ptr 2 0])], .cells [oi x59.Kind, .d (.val (.string x59.Name)), .d (.sl (W eA10Range x59.Zones)), oi x59.N, oi x59.R.Num, oi x59.R.Den, oi x59.S.Num, oi x59.S.Den] 41]) (fun y hm Kn4 hKn4 => ?_) fun t h => ?_
               · have h := hm
                 clear hm
                 cbv
                 refine .g h (fun v hv => decide_Holds_R hP _ _ v hv) aw_ rfl (fun _ => rfl) fun v69 h => ?_
                 cbv
                 obtain rfl := oj h
                 refine hKn4 _ _ _ rfl (.nz (.mtE [0, 1, 2, 3, 4, 5] ?_))
                 (cbv; repeat (refine ⟨an_, ?_⟩; cbv))
               obtain ⟨v68, rfl⟩ : ∃ z, z = t := ⟨_, rfl⟩
               cbv
               refine brkG h ?_ ?_ <;> intro h
               · cbv
                 refine .inl (hP ▸ c39_ok) ?_
                 cbv
                 refine brkG h ?_ ?_ <;> intro h
                 · cbv
                   refine .g [3] ?_
                   cbv
                   obtain rfl := oj h
                   refine hKn3 _ _ _ rfl (.nz (.mtE [0, 1, 2, 3, 4] ?_))
                   (cbv; repeat (refine ⟨an_, ?_⟩; cbv))
                 · cbv
                   obtain rfl := oj h
                   refine hKn3 _ _ _ rfl (.nz (.mtE [0, 1, 2, 3, 4] ?_))
                   (cbv; repeat (refine ⟨an_, ?_⟩; cbv))
               · cbv
                 obtain rfl := oj h
                 refine hKn3 _ _ _ rfl (.nz (.mtE [0, 1, 2, 3, 4] ?_))
                 (cbv; repeat (refine ⟨an_, ?_⟩; cbv))
             · cbv
               refine brkG h ?_ ?_ <;> intro h
               · cbv
                 refine .g h (fun (v70 : Bool) => rp 3 .top ++ [.ptr 0 0, .ptr 1 0, .top, .ptr 2 0, .hd 4, oi v39, .ptr 5 0, .clo (.func 40) [.ptr 3 0] []] ++ rp 24 .top ++ [.d (.sl (W eRule p.Rules)), oi (io.len (W eRule p.Rules)), oi v39] ++ rp 14 .top ++ [ob v70] ++ rp 52 .top) (fun (v70 : Bool) => [.cells (ca f) 32, .cells [ob false, ob false, ob false, oi 0, oi 0, oi 0, oi 0, oi 0, oi 0, oi 0, oi 0, oi 0, oi 0, oi 0, oi 0, oi 0] 45, .cells [.ptr 3 0] 76, .cells [ob false, ob Together20, ob Single21, oi Limit22, oi Price23, oi Num24, oi Den25, oi Num26, oi Den27, oi Num28, oi Den29, oi Num30, oi Den31, oi Num32, oi Den33, oi 0, ob priced34, ob sold35, ob back36, oi allowed37, oi denied38] 78, .mpf (.int .i64) [((Value.int .i64) 1, .clo (.func 36) [.ptr 3 0] []), ((Value.int .i64) 2, .clo (.func 37) [.ptr 3 0] []), ((Value.int .i64) 3, .clo (.func 38) [.ptr 3 0] []), ((Value.int .i64) 4, .clo (.func 39) [.ptr 3 0] []), ((Value.int .i64) 5, .clo (.func 40) [.ptr 3 0] []), ((Value.int .i64) 6, .clo (.func 41) [] [.ptr 2 0]), ((Value.int .i64) 7, .clo (.func 42) [] [.ptr 2 0])], .cells [oi x59.Kind, .d (.val (.string x59.Name)), .d (.sl (W eA10Range x59.Zones)), oi x59.N, oi x59.R.Num, oi x59.R.Den, oi x59.S.Num, oi x59.S.Den] 41]) (fun y hm Kn4 hKn4 => ?_) fun t h => ?_
                 · have h := hm
                   clear hm
                   cbv
                   refine .g h (fun v hv => decide_Holds_R hP _ _ v hv) aw_ rfl (fun _ => rfl) fun v71 h => ?_
                   cbv
                   obtain rfl := oj h
                   refine hKn4 _ _ _ rfl (.nz (.mtE [0, 1, 2, 3, 4, 5] ?_))
                   (cbv; repeat (refine ⟨an_, ?_⟩; cbv))
                 obtain ⟨v70, rfl⟩ : ∃ z, z = t := ⟨_, rfl⟩
                 cbv
                 refine brkG h ?_ ?_ <;> intro h
                 · cbv
                   refine .inl (hP ▸ c40_ok) ?_
                   cbv
                   refine brkG h ?_ ?_ <;> intro h
                   · cbv
                     refine .g [3] ?_
                     cbv
                     obtain rfl := oj h
                     refine hKn3 _ _ _ rfl (.nz (.mtE [0, 1, 2, 3, 4] ?_))
                     (cbv; repeat (refine ⟨an_, ?_⟩; cbv))
                   · cbv
                     obtain rfl := oj h
                     refine hKn3 _ _ _ rfl (.nz (.mtE [0, 1, 2, 3, 4] ?_))
                     (cbv; repeat (refine ⟨an_, ?_⟩; cbv))
                 · cbv
                   obtain rfl := oj h
                   refine hKn3 _ _ _ rfl (.nz (.mtE [0, 1, 2, 3, 4] ?_))
                   (cbv; repeat (refine ⟨an_, ?_⟩; cbv))
               · cbv
                 refine brkG h ?_ ?_ <;> intro h
                 · cbv
                   refine .g h (fun (v72 : Bool) => rp 3 .top ++ [.ptr 0 0, .ptr 1 0, .top, .ptr 2 0, .hd 4, oi v39, .ptr 5 0, .clo (.func 41) [] [.ptr 2 0]] ++ rp 24 .top ++ [.d (.sl (W eRule p.Rules)), oi (io.len (W eRule p.Rules)), oi v39] ++ rp 14 .top ++ [ob v72] ++ rp 52 .top) (fun (v72 : Bool) => [.cells (ca f) 32, .cells [ob false, ob false, ob false, oi 0, oi 0, oi 0, oi 0, oi 0, oi 0, oi 0, oi 0, oi 0, oi 0, oi 0, oi 0, oi 0] 45, .cells [.ptr 3 0] 76, .cells [ob false, ob Together20, ob Single21, oi Limit22, oi Price23, oi Num24, oi Den25, oi Num26, oi Den27, oi Num28, oi Den29, oi Num30, oi Den31, oi Num32, oi Den33, oi 0, ob priced34, ob sold35, ob back36, oi allowed37, oi denied38] 78, .mpf (.int .i64) [((Value.int .i64) 1, .clo (.func 36) [.ptr 3 0] []), ((Value.int .i64) 2, .clo (.func 37) [.ptr 3 0] []), ((Value.int .i64) 3, .clo (.func 38) [.ptr 3 0] []), ((Value.int .i64) 4, .clo (.func 39) [.ptr 3 0] []), ((Value.int .i64) 5, .clo (.func 40) [.ptr 3 0] []), ((Value.int .i64) 6, .clo (.func 41) [] [.ptr 2 0]), ((Value.int .i64) 7, .clo (.func 42) [] [.ptr 2 0])], .cells [oi x59.Kind, .d (.val (.string x59.Name)), .d (.sl (W eA10Range x59.Zones)), oi x59.N, oi x59.R.Num, oi x59.R.Den, oi x59.S.Num, oi x59.S.Den] 41]) (fun y hm Kn4 hKn4 => ?_) fun t h => ?_
                   · have h := hm
                     clear hm
                     cbv
                     refine .g h (fun v hv => decide_Holds_R hP _ _ v hv) aw_ rfl (fun _ => rfl) fun v73 h => ?_
                     cbv
                     obtain rfl := oj h
                     refine hKn4 _ _ _ rfl (.nz (.mtE [0, 1, 2, 3, 4, 5] ?_))
                     (cbv; repeat (refine ⟨an_, ?_⟩; cbv))
                   obtain ⟨v72, rfl⟩ : ∃ z, z = t := ⟨_, rfl⟩
                   cbv
                   refine brkG h ?_ ?_ <;> intro h
                   · cbv
                     refine .inl (hP ▸ c41_ok) ?_
                     cbv
                     obtain rfl := oj h
                     refine hKn3 _ _ _ rfl (.nz (.mtE [0, 1, 2, 3, 4] ?_))
                     (cbv; repeat (refine ⟨an_, ?_⟩; cbv))
                   · cbv
                     obtain rfl := oj h
                     refine hKn3 _ _ _ rfl (.nz (.mtE [0, 1, 2, 3, 4] ?_))
                     (cbv; repeat (refine ⟨an_, ?_⟩; cbv))
                 · cbv
                   refine brkG h ?_ ?_ <;> intro h
                   · cbv
                     refine .g h (fun (v74 : Bool) => rp 3 .top ++ [.ptr 0 0, .ptr 1 0, .top, .ptr 2 0, .hd 4, oi v39, .ptr 5 0, .clo (.func 42) [] [.ptr 2 0]] ++ rp 24 .top ++ [.d (.sl (W eRule p.Rules)), oi (io.len (W eRule p.Rules)), oi v39] ++ rp 14 .top ++ [ob v74] ++ rp 52 .top) (fun (v74 : Bool) => [.cells (ca f) 32, .cells [ob false, ob false, ob false, oi 0, oi 0, oi 0, oi 0, oi 0, oi 0, oi 0, oi 0, oi 0, oi 0, oi 0, oi 0, oi 0] 45, .cells [.ptr 3 0] 76, .cells [ob false, ob Together20, ob Single21, oi Limit22, oi Price23, oi Num24, oi Den25, oi Num26, oi Den27, oi Num28, oi Den29, oi Num30, oi Den31, oi Num32, oi Den33, oi 0, ob priced34, ob sold35, ob back36, oi allowed37, oi denied38] 78, .mpf (.int .i64) [((Value.int .i64) 1, .clo (.func 36) [.ptr 3 0] []), ((Value.int .i64) 2, .clo (.func 37) [.ptr 3 0] []), ((Value.int .i64) 3, .clo (.func 38) [.ptr 3 0] []), ((Value.int .i64) 4, .clo (.func 39) [.ptr 3 0] []), ((Value.int .i64) 5, .clo (.func 40) [.ptr 3 0] []), ((Value.int .i64) 6, .clo (.func 41) [] [.ptr 2 0]), ((Value.int .i64) 7, .clo (.func 42) [] [.ptr 2 0])], .cells [oi x59.Kind, .d (.val (.string x59.Name)), .d (.sl (W eA10Range x59.Zones)), oi x59.N, oi x59.R.Num, oi x59.R.Den, oi x59.S.Num, oi x59.S.Den] 41]) (fun y hm Kn4 hKn4 => ?_) fun t h => ?_
                     · have h := hm
                       clear hm
                       cbv
                       refine .g h (fun v hv => decide_Holds_R hP _ _ v hv) aw_ rfl (fun _ => rfl) fun v75 h => ?_
                       cbv
                       obtain rfl := oj h
                       refine hKn4 _ _ _ rfl (.nz (.mtE [0, 1, 2, 3, 4, 5] ?_))
                       (cbv; repeat (refine ⟨an_, ?_⟩; cbv))
                     obtain ⟨v74, rfl⟩ : ∃ z, z = t := ⟨_, rfl⟩
                     cbv
                     refine brkG h ?_ ?_ <;> intro h
                     · cbv
                       refine .inl (hP ▸ c42_ok) ?_
                       cbv
                       obtain rfl := oj h
                       refine hKn3 _ _ _ rfl (.nz (.mtE [0, 1, 2, 3, 4] ?_))
                       (cbv; repeat (refine ⟨an_, ?_⟩; cbv))
                     · cbv
                       obtain rfl := oj h
                       refine hKn3 _ _ _ rfl (.nz (.mtE [0, 1, 2, 3, 4] ?_))
                       (cbv; repeat (refine ⟨an_, ?_⟩; cbv))
                   · cbv
                     refine .g h (fun (_ : Unit) => rp 3 .top ++ [.ptr 0 0, .ptr 1 0, .top, .ptr 2 0, .hd 4, oi v39, .ptr 5 0, .d (.val .nilFunc)] ++ rp 24 .top ++ [.d (.sl (W eRule p.Rules)), oi (io.len (W eRule p.Rules)), oi v39] ++ rp 14 .top ++ [ob false] ++ rp 52 .top) (fun (_ : Unit) => [.cells (ca f) 32, .cells [ob false, ob false, ob false, oi 0, oi 0, oi 0, oi 0, oi 0, oi 0, oi 0, oi 0, oi 0, oi 0, oi 0, oi 0, oi 0] 45, .cells [.ptr 3 0] 76, .cells [ob false, ob Together20, ob Single21, oi Limit22, oi Price23, oi Num24, oi Den25, oi Num26, oi Den27, oi Num28, oi Den29, oi Num30, oi Den31, oi Num32, oi Den33, oi 0, ob priced34, ob sold35, ob back36, oi allowed37, oi denied38] 78, .mpf (.int .i64) [((Value.int .i64) 1, .clo (.func 36) [.ptr 3 0] []), ((Value.int .i64) 2, .clo (.func 37) [.ptr 3 0] []), ((Value.int .i64) 3, .clo (.func 38) [.ptr 3 0] []), ((Value.int .i64) 4, .clo (.func 39) [.ptr 3 0] []), ((Value.int .i64) 5, .clo (.func 40) [.ptr 3 0] []), ((Value.int .i64) 6, .clo (.func 41) [] [.ptr 2 0]), ((Value.int .i64) 7, .clo (.func 42) [] [.ptr 2 0])], .cells [oi x59.Kind, .d (.val (.string x59.Name)), .d (.sl (W eA10Range x59.Zones)), oi x59.N, oi x59.R.Num, oi x59.R.Den, oi x59.S.Num, oi x59.S.Den] 41]) (fun y hm Kn4 hKn4 => ?_) fun t h => ?_
                     · have h := hm
                       clear hm
                       cbv
                       obtain rfl := oj h
                       refine hKn4 _ _ _ rfl (.nz (.mtE [0, 1, 2, 3, 4, 5] ?_))
                       (cbv; repeat (refine ⟨an_, ?_⟩; cbv))
                     cbv
                     obtain rfl := oj h
                     refine hKn3 _ _ _ rfl (.nz (.mtE [0, 1, 2, 3, 4] ?_))
                     (cbv; repeat (refine ⟨an_, ?_⟩; cbv))
     obtain ⟨Together40, Single41, Limit42, Price43, Num44, Den45, Num46, Den47, Num48, Den49, Num50, Den51, Num52, Den53, priced54, sold55, back56, allowed57, denied58⟩ := t
     cbv
     obtain rfl := oj h
     refine hKn2 _ _ _ rfl (.nz (.mtE [0, 1, 2, 3, 4] ?_))
     (cbv; repeat (refine ⟨an_, ?_⟩; cbv))
   · cbv
     obtain rfl := oj h
     obtain rfl := hr2 _ rfl
     refine hKn1 _ _ _ rfl (.nz (.mtE [1, 2, 3] ?_))
     (cbv; repeat (refine ⟨an_, ?_⟩; cbv))
 obtain ⟨Together1, Single2, Limit3, Price4, Num5, Den6, Num7, Den8, Num9, Den10, Num11, Den12, Num13, Den14, priced15, sold16, back17, allowed18, denied19⟩ := t
 cbv
 refine .g h (fun (Allowed76 : Bool) => rp 4 .top ++ [.ptr 0 0, .top, .ptr 1 0] ++ rp 98 .top) (fun (Allowed76 : Bool) => [.cells [ob false, ob false, ob false, oi 0, oi 0, oi 0, oi 0, oi 0, oi 0, oi 0, oi 0, oi 0, oi 0, oi 0, oi 0, oi 0] 45, .cells [.ptr 2 0] 76, .cells [ob Allowed76, ob Together1, ob Single2, oi Limit3, oi Price4, oi Num5, oi Den6, oi Num7, oi Den8, oi Num9, oi Den10, oi Num11, oi Den12, oi Num13, oi Den14, oi 0, ob priced15, ob sold16, ob back17, oi allowed18, oi denied19] 78]) (fun y hm Kn1 hKn1 => ?_) fun t h => ?_
 · have h := hm
   clear hm
   cbv
   refine brkG h ?_ ?_ <;> intro h
   · cbv
     refine brkG h ?_ ?_ <;> intro h
     · cbv
       obtain rfl := oj h
       refine hKn1 _ _ _ rfl (.nz (.mtE [0, 1, 2] ?_))
       (cbv; repeat (refine ⟨an_, ?_⟩; cbv))
     · cbv
       obtain rfl := oj h
       refine hKn1 _ _ _ rfl (.nz (.mtE [0, 1, 2] ?_))
       (cbv; repeat (refine ⟨an_, ?_⟩; cbv))
   · cbv
     obtain rfl := oj h
     refine hKn1 _ _ _ rfl (.nz (.mtE [0, 1, 2] ?_))
     (cbv; repeat (refine ⟨an_, ?_⟩; cbv))
 obtain ⟨Allowed76, rfl⟩ : ∃ z, z = t := ⟨_, rfl⟩
 cbv
 refine .g h (fun (By77 : Int) => rp 4 .top ++ [.ptr 0 0, .top, .ptr 1 0] ++ rp 98 .top) (fun (By77 : Int) => [.cells [ob false, ob false, ob false, oi 0, oi 0, oi 0, oi 0, oi 0, oi 0, oi 0, oi 0, oi 0, oi 0, oi 0, oi 0, oi 0] 45, .cells [.ptr 2 0] 76, .cells [ob Allowed76, ob Together1, ob Single2, oi Limit3, oi Price4, oi Num5, oi Den6, oi Num7, oi Den8, oi Num9, oi Den10, oi Num11, oi Den12, oi Num13, oi Den14, oi By77, ob priced15, ob sold16, ob back17, oi allowed18, oi denied19] 78]) (fun y hm Kn1 hKn1 => ?_) fun t h => ?_
 · have h := hm
   clear hm
   cbv
   refine brkG h ?_ ?_ <;> intro h
   · cbv
     obtain rfl := oj h
     refine hKn1 _ _ _ rfl (.nz (.mtE [0, 1, 2] ?_))
     (cbv; repeat (refine ⟨an_, ?_⟩; cbv))
   · cbv
     obtain rfl := oj h
     refine hKn1 _ _ _ rfl (.nz (.mtE [0, 1, 2] ?_))
     (cbv; repeat (refine ⟨an_, ?_⟩; cbv))
 obtain ⟨By77, rfl⟩ : ∃ z, z = t := ⟨_, rfl⟩
 cbv
 obtain rfl := oj h
 exact hK _ _ aw_
end Go.SX.Cl
