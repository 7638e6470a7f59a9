/- Parts of the proof. -/
import Derived.Test.YtllbabjgpdmblaaZClT
import Derived.Test.YtllbabjgpdmblaaZCl24
set_option linter.unusedSimpArgs false
set_option linter.unusedVariables false
namespace Go.SX.Cl
open Go Go.SX Go.Proofs
set_option maxRecDepth 100000
def c68r0 : List GOp := [
 gv 2 (.box 39 (.tmp 0)),
 gv 4 (.mv (.const (.bool false)))]
def c68r1 : List GOp := [
 gv 5 (.fadd 1 (.tmp 2)),
 gv 6 (.load 1 false (.tmp 5)),
 gv 7 (.bin .geq (.tmp 6) (.const (.int .i64 1))),
 gv 8 (.mv (.tmp 7)),
 gw 9 8 true (.fadd 1 (.tmp 2)),
 gw 10 8 true (.load 1 false (.tmp 9)),
 gw 11 8 true (.bin .leq (.tmp 10) (.const (.int .i64 1000000))),
 gv 12 (.pick (.tmp 8) (.tmp 11) (.const (.bool false))),
 gv 13 (.mv (.tmp 12)),
 gw 14 13 true (.fadd 0 (.tmp 2)),
 gw 15 13 true (.load 1 false (.tmp 14)),
 gw 16 13 true (.bin .geq (.tmp 15) (.const (.int .i64 0))),
 gv 17 (.pick (.tmp 13) (.tmp 16) (.const (.bool false))),
 gv 18 (.mv (.tmp 17)),
 gw 19 18 true (.fadd 0 (.tmp 2)),
 gw 20 18 true (.load 1 false (.tmp 19)),
 gw 21 18 true (.mv (.tmp 1)),
 gw 22 18 true (.fadd 1 (.tmp 2)),
 gw 23 18 true (.load 1 false (.tmp 22)),
 gw 24 18 true (.bin .mul (.tmp 21) (.tmp 23)),
 gw 25 18 true (.bin .leq (.tmp 20) (.tmp 24)),
 gv 26 (.pick (.tmp 18) (.tmp 25) (.const (.bool false))),
 gv 27 (.mv (.tmp 26)),
 gw 28 27 true (.fadd 0 (.tmp 2)),
 gw 29 27 true (.load 1 false (.tmp 28)),
 gw 30 27 true (.bin .leq (.tmp 29) (.const (.int .i64 1000000))),
 gv 31 (.pick (.tmp 27) (.tmp 30) (.const (.bool false))),
 gv 4 (.mv (.tmp 31))]
def c68 : EFn := ⟨32, .seq (.reg c68r0) (.seq (.reg c68r1) (.ret)), [.tmp 4]⟩
theorem c68_ok : compF Try.prog 68 = some c68.er := by kernel_rfl
def c58r0 : List GOp := [
 gv 1 (.box 41 (.tmp 0)),
 gv 2 (.mv (.const (.bool false)))]
def c58r1 : List GOp := [
 gv 3 (.fadd 0 (.tmp 1)),
 gv 4 (.load 1 false (.tmp 3)),
 gv 5 (.bin .eql (.tmp 4) (.const (.int .i64 1)))]
def c58r2 : List GOp := [
 gv 6 (.fadd 3 (.tmp 1)),
 gv 7 (.load 1 false (.tmp 6)),
 gv 8 (.bin .geq (.tmp 7) (.const (.int .i64 0))),
 gv 9 (.mv (.tmp 8)),
 gw 10 9 true (.fadd 3 (.tmp 1)),
 gw 11 9 true (.load 1 false (.tmp 10)),
 gw 12 9 true (.bin .leq (.tmp 11) (.const (.int .i64 100))),
 gv 13 (.pick (.tmp 9) (.tmp 12) (.const (.bool false))),
 gv 2 (.mv (.tmp 13))]
def c58r3 : List GOp := [
 gv 14 (.fadd 0 (.tmp 1)),
 gv 15 (.load 1 false (.tmp 14)),
 gv 16 (.bin .eql (.tmp 15) (.const (.int .i64 3)))]
def c58r4 : List GOp := [
 gv 17 (.fadd 3 (.tmp 1)),
 gv 18 (.load 1 false (.tmp 17)),
 gv 19 (.bin .geq (.tmp 18) (.const (.int .i64 0))),
 gv 20 (.mv (.tmp 19)),
 gw 21 20 true (.fadd 3 (.tmp 1)),
 gw 22 20 true (.load 1 false (.tmp 21)),
 gw 23 20 true (.bin .leq (.tmp 22) (.const (.int .i64 10000000))),
 gv 24 (.pick (.tmp 20) (.tmp 23) (.const (.bool false))),
 gv 25 (.mv (.tmp 24)),
 gw 26 25 true (.fadd 4 (.tmp 1)),
 gw 27 25 true (.load 2 true (.tmp 26)),
 gw 28 25 true (.call 68 [(.tmp 27), (.const (.int .i64 1))]),
 gv 29 (.pick (.tmp 25) (.tmp 28) (.const (.bool false))),
 gv 30 (.mv (.tmp 29)),
 gw 31 30 true (.fadd 6 (.tmp 1)),
 gw 32 30 true (.load 2 true (.tmp 31)),
 gw 33 30 true (.call 68 [(.tmp 32), (.const (.int .i64 1))]),
 gv 34 (.pick (.tmp 30) (.tmp 33) (.const (.bool false))),
 gv 2 (.mv (.tmp 34))]
def c58r5 : List GOp := [
 gv 35 (.fadd 0 (.tmp 1)),
 gv 36 (.load 1 false (.tmp 35)),
 gv 37 (.bin .eql (.tmp 36) (.const (.int .i64 4)))]
def c58r6 : List GOp := [
 gv 38 (.fadd 4 (.tmp 1)),
 gv 39 (.load 2 true (.tmp 38)),
 gv 40 (.call 68 [(.tmp 39), (.const (.int .i64 10))]),
 gv 41 (.mv (.tmp 40)),
 gw 42 41 true (.fadd 6 (.tmp 1)),
 gw 43 41 true (.load 2 true (.tmp 42)),
 gw 44 41 true (.call 68 [(.tmp 43), (.const (.int .i64 1))]),
 gv 45 (.pick (.tmp 41) (.tmp 44) (.const (.bool false))),
 gv 2 (.mv (.tmp 45))]
def c58r7 : List GOp := [
 gv 46 (.fadd 0 (.tmp 1)),
 gv 47 (.load 1 false (.tmp 46)),
 gv 48 (.bin .eql (.tmp 47) (.const (.int .i64 5)))]
def c58r8 : List GOp := [
 gv 49 (.fadd 4 (.tmp 1)),
 gv 50 (.load 2 true (.tmp 49)),
 gv 51 (.call 68 [(.tmp 50), (.const (.int .i64 1))]),
 gv 2 (.mv (.tmp 51))]
def c58r9 : List GOp := [
 gv 52 (.fadd 0 (.tmp 1)),
 gv 53 (.load 1 false (.tmp 52)),
 gv 54 (.bin .eql (.tmp 53) (.const (.int .i64 2))),
 gv 55 (.mv (.tmp 54)),
 gw 56 55 false (.fadd 0 (.tmp 1)),
 gw 57 55 false (.load 1 false (.tmp 56)),
 gw 58 55 false (.bin .eql (.tmp 57) (.const (.int .i64 6))),
 gv 59 (.pick (.tmp 55) (.const (.bool true)) (.tmp 58)),
 gv 60 (.mv (.tmp 59)),
 gw 61 60 false (.fadd 0 (.tmp 1)),
 gw 62 60 false (.load 1 false (.tmp 61)),
 gw 63 60 false (.bin .eql (.tmp 62) (.const (.int .i64 7))),
 gv 64 (.pick (.tmp 60) (.const (.bool true)) (.tmp 63)),
 gv 2 (.mv (.tmp 64))]
def c58 : EFn := ⟨65, .seq (.reg c58r0) (.seq (.seq (.reg c58r1) (.cond (.tmp 5) (.seq (.reg c58r2) (.ret)) (.skip))) (.seq (.seq (.reg c58r3) (.cond (.tmp 16) (.seq (.reg c58r4) (.ret)) (.skip))) (.seq (.seq (.reg c58r5) (.cond (.tmp 37) (.seq (.reg c58r6) (.ret)) (.skip))) (.seq (.seq (.reg c58r7) (.cond (.tmp 48) (.seq (.reg c58r8) (.ret)) (.skip))) (.seq (.reg c58r9) (.ret)))))), [.tmp 2]⟩
theorem c58_ok : compF Try.prog 58 = some c58.er := by kernel_rfl
noncomputable def ref13_numbers_g (r_ : Rule) : Option (Bool) :=
 bif (io.eq r_.Kind 1) then (
 bif (io.le 0 r_.N) then (
 some (io.le r_.N 100)
 ) else (
 some false
 )
 ) else (
 bif (io.eq r_.Kind 3) then (
 bif (io.le 0 r_.N) then (
 bif (io.le r_.N 10000000) then (
 bif (io.le 1 r_.R.Den) then (
 bif (io.le r_.R.Den 1000000) then (
 bif (io.le 0 r_.R.Num) then (
 bif (io.le r_.R.Num (io.ar .mul .i64 1 r_.R.Den)) then (
 bif (io.le r_.R.Num 1000000) then (
 bif (io.le 1 r_.S.Den) then (
 bif (io.le r_.S.Den 1000000) then (
 bif (io.le 0 r_.S.Num) then (
 bif (io.le r_.S.Num (io.ar .mul .i64 1 r_.S.Den)) then (
 some (io.le r_.S.Num 1000000)
 ) else (
 some false
 )
 ) else (
 some false
 )
 ) else (
 some false
 )
 ) else (
 some false
 )
 ) else (
 some false
 )
 ) else (
 some false
 )
 ) else (
 some false
 )
 ) else (
 some false
 )
 ) else (
 some false
 )
 ) else (
 some false
 )
 ) else (
 some false
 )
 ) else (
 bif (io.eq r_.Kind 4) then (
 bif (io.le 1 r_.R.Den) then (
 bif (io.le r_.R.Den 1000000) then (
 bif (io.le 0 r_.R.Num) then (
 bif (io.le r_.R.Num (io.ar .mul .i64 10 r_.R.Den)) then (
 bif (io.le r_.R.Num 1000000) then (
 bif (io.le 1 r_.S.Den) then (
 bif (io.le r_.S.Den 1000000) then (
 bif (io.le 0 r_.S.Num) then (
 bif (io.le r_.S.Num (io.ar .mul .i64 1 r_.S.Den)) then (
 some (io.le r_.S.Num 1000000)
 ) else (
 some false
 )
 ) else (
 some false
 )
 ) else (
 some false
 )
 ) else (
 some false
 )
 ) else (
 some false
 )
 ) else (
 some false
 )
 ) else (
 some false
 )
 ) else (
 some false
 )
 ) else (
 some false
 )
 ) else (
 bif (io.eq r_.Kind 5) then (
 bif (io.le 1 r_.R.Den) then (
 bif (io.le r_.R.Den 1000000) then (
 bif (io.le 0 r_.R.Num) then (
 bif (io.le r_.R.Num (io.ar .mul .i64 1 r_.R.Den)) then (
 some (io.le r_.R.Num 1000000)
 ) else (
 some false
 )
 ) else (
 some false
 )
 ) else (
 some false
 )
 ) else (
 some false
 )
 ) else (
 bif (io.eq r_.Kind 2) then (
 some true
 ) else (
 bif (io.eq r_.Kind 6) then (
 some true
 ) else (
 some (io.eq r_.Kind 7)
 )
 )
 )
 )
 )
 )
set_option maxHeartbeats 4000000 in
theorem ref13_numbers_R {P : Program} (hP : P = Try.prog) (r_ : Rule) (r : Bool) (h : ref13_numbers_g r_ = some r) : Fn1 P 58 [vRule r_] (vB r) := by
 refine .walkE (hP ▸ c58_ok) fun K hK => ?_
 unfold ref13_numbers_g at h
 cbv
 refine brkG h ?_ ?_ <;> intro h
 · cbv
   refine brkG h ?_ ?_ <;> intro h
   · cbv
     obtain rfl := oj h
     exact hK _ _ aw_
   · cbv
     obtain rfl := oj h
     exact hK _ _ aw_
 · cbv
   refine brkG h ?_ ?_ <;> intro h
   · cbv
     refine brkG h ?_ ?_ <;> intro h
     · cbv
       refine brkG h ?_ ?_ <;> intro h
       · cbv
         refine .inl (hP ▸ c68_ok) ?_
         cbv
         refine brkG h ?_ ?_ <;> intro h
         · cbv
           refine brkG h ?_ ?_ <;> intro h
           · cbv
             refine brkG h ?_ ?_ <;> intro h
             · cbv
               refine brkG h ?_ ?_ <;> intro h
               · cbv
                 refine brkG h ?_ ?_ <;> intro h
                 · cbv
                   refine .inl (hP ▸ c68_ok) ?_
                   cbv
                   refine brkG h ?_ ?_ <;> intro h
                   · cbv
                     refine brkG h ?_ ?_ <;> intro h
                     · cbv
                       refine brkG h ?_ ?_ <;> intro h
                       · cbv
                         refine brkG h ?_ ?_ <;> intro h
                         · cbv
                           obtain rfl := oj h
                           exact hK _ _ aw_
                         · cbv
                           obtain rfl := oj h
                           exact hK _ _ aw_
                       · cbv
                         obtain rfl := oj h
                         exact hK _ _ aw_
                     · cbv
                       obtain rfl := oj h
                       exact hK _ _ aw_
                   · cbv
                     obtain rfl := oj h
                     exact hK _ _ aw_
                 · cbv
                   obtain rfl := oj h
                   exact hK _ _ aw_
               · cbv
                 obtain rfl := oj h
                 exact hK _ _ aw_
             · cbv
               obtain rfl := oj h
               exact hK _ _ aw_
           · cbv
             obtain rfl := oj h
             exact hK _ _ aw_
         · cbv
           obtain rfl := oj h
           exact hK _ _ aw_
       · cbv
         obtain rfl := oj h
         exact hK _ _ aw_
     · cbv
       obtain rfl := oj h
       exact hK _ _ aw_
   · cbv
     refine brkG h ?_ ?_ <;> intro h
     · cbv
       refine .inl (hP ▸ c68_ok) ?_
       cbv
       refine brkG h ?_ ?_ <;> intro h
       · cbv
         refine brkG h ?_ ?_ <;> intro h
         · cbv
           refine brkG h ?_ ?_ <;> intro h
           · cbv
             refine brkG h ?_ ?_ <;> intro h
             · cbv
               refine brkG h ?_ ?_ <;> intro h
               · cbv
                 refine .inl (hP ▸ c68_ok) ?_
                 cbv
                 refine brkG h ?_ ?_ <;> intro h
                 · cbv
                   refine brkG h ?_ ?_ <;> intro h
                   · cbv
                     refine brkG h ?_ ?_ <;> intro h
                     · cbv
                       refine brkG h ?_ ?_ <;> intro h
                       · cbv
                         obtain rfl := oj h
                         exact hK _ _ aw_
                       · cbv
                         obtain rfl := oj h
                         exact hK _ _ aw_
                     · cbv
                       obtain rfl := oj h
                       exact hK _ _ aw_
                   · cbv
                     obtain rfl := oj h
                     exact hK _ _ aw_
                 · cbv
                   obtain rfl := oj h
                   exact hK _ _ aw_
               · cbv
                 obtain rfl := oj h
                 exact hK _ _ aw_
             · cbv
               obtain rfl := oj h
               exact hK _ _ aw_
           · cbv
             obtain rfl := oj h
             exact hK _ _ aw_
         · cbv
           obtain rfl := oj h
           exact hK _ _ aw_
       · cbv
         obtain rfl := oj h
         exact hK _ _ aw_
     · cbv
       refine brkG h ?_ ?_ <;> intro h
       · cbv
         refine .inl (hP ▸ c68_ok) ?_
         cbv
         refine brkG h ?_ ?_ <;> intro h
         · cbv
           refine brkG h ?_ ?_ <;> intro h
           · cbv
             refine brkG h ?_ ?_ <;> intro h
             · cbv
               refine brkG h ?_ ?_ <;> intro h
               · cbv
                 obtain rfl := oj h
                 exact hK _ _ aw_
               · cbv
                 obtain rfl := oj h
                 exact hK _ _ aw_
             · cbv
               obtain rfl := oj h
               exact hK _ _ aw_
           · cbv
             obtain rfl := oj h
             exact hK _ _ aw_
         · cbv
           obtain rfl := oj h
           exact hK _ _ aw_
       · cbv
         refine brkG h ?_ ?_ <;> intro h
         · cbv
           obtain rfl := oj h
           exact hK _ _ aw_
         · cbv
           refine brkG h ?_ ?_ <;> intro h
           · cbv
             obtain rfl := oj h
             exact hK _ _ aw_
           · cbv
             obtain rfl := oj h
             exact hK _ _ aw_
end Go.SX.Cl
namespace Go.SX.Cl
open Go Go.SX Go.Proofs
set_option maxRecDepth 100000
def c30r0 : List GOp := [
 gv 1 (.box 24 (.tmp 0)),
 gv 2 (.mv (.const (.bool false)))]
def c30r1 : List GOp := [
 gv 9 (.fadd 0 (.tmp 1)),
 gv 10 (.load 1 false (.tmp 9)),
 gv 11 (.len false (.tmp 10)),
 gv 12 (.bin .gtr (.tmp 11) (.const (.int .i64 200)))]
def c30r2 : List GOp := [
 gv 2 (.mv (.const (.bool false)))]
def c30r3 : List GOp := [
 gv 13 (.call 57 []),
 gv 3 (.alloc 54 (.agg #[oz, oz, oz, oz, oz, oz, oz, oz, oz, oz, oz, oz, oz, oz, oz, oz, oz, oz, oz, oz])),
 ⟨none, .store 20 (.tmp 3) (.tmp 13), none⟩]
def c30r4 : List GOp := [
 gv 4 (.mv (.const (.int .i64 0)))]
def c30r5 : List GOp := [
 gv 14 (.mv (.tmp 4)),
 gv 15 (.fadd 0 (.tmp 1)),
 gv 16 (.load 1 false (.tmp 15)),
 gv 17 (.len false (.tmp 16)),
 gv 18 (.bin .lss (.tmp 14) (.tmp 17))]
def c30r6 : List GOp := [
 gv 21 (.fadd 0 (.tmp 1)),
 gv 22 (.load 1 false (.tmp 21)),
 gv 23 (.mv (.tmp 4)),
 gv 24 (.idxA 8 (.tmp 22) (.tmp 23)),
 gv 25 (.load 8 true (.tmp 24)),
 gv 5 (.alloc 41 (.agg #[oz, (.string ⟨#[]⟩), (.slice none 0 0), oz, oz, oz, oz, oz])),
 ⟨none, .store 8 (.tmp 5) (.tmp 25), none⟩]
def c30r7 : List GOp := [
 gv 26 (.load 8 true (.tmp 5)),
 gv 27 (.call 58 [(.tmp 26)]),
 gv 28 (.un .not (.tmp 27)),
 gv 29 (.mv (.tmp 28)),
 gw 30 29 false (.fadd 2 (.tmp 5)),
 gw 31 29 false (.load 1 false (.tmp 30)),
 gw 32 29 false (.len false (.tmp 31)),
 gw 33 29 false (.bin .gtr (.tmp 32) (.const (.int .i64 200))),
 gv 34 (.pick (.tmp 29) (.const (.bool true)) (.tmp 33))]
def c30r8 : List GOp := [
 gv 2 (.mv (.const (.bool false)))]
def c30r9 : List GOp := [
 gv 6 (.mv (.const (.int .i64 0)))]
def c30r10 : List GOp := [
 gv 35 (.mv (.tmp 6)),
 gv 36 (.fadd 2 (.tmp 5)),
 gv 37 (.load 1 false (.tmp 36)),
 gv 38 (.len false (.tmp 37)),
 gv 39 (.bin .lss (.tmp 35) (.tmp 38))]
def c30r11 : List GOp := [
 gv 7 (.mv (.const (.int .i64 0)))]
def c30r12 : List GOp := [
 gv 42 (.mv (.tmp 7)),
 gv 43 (.bin .lss (.tmp 42) (.const (.int .i64 10)))]
def c30r13 : List GOp := [
 gv 46 (.fadd 2 (.tmp 5)),
 gv 47 (.load 1 false (.tmp 46)),
 gv 48 (.mv (.tmp 6)),
 gv 49 (.mv (.tmp 7)),
 gv 50 (.idxA 20 (.tmp 47) (.tmp 48)),
 gv 51 (.idxP 10 2 (.tmp 50) (.tmp 49)),
 gv 52 (.fadd 0 (.tmp 51)),
 gv 53 (.load 1 false (.tmp 52)),
 gv 54 (.fadd 2 (.tmp 5)),
 gv 55 (.load 1 false (.tmp 54)),
 gv 56 (.mv (.tmp 6)),
 gv 57 (.mv (.tmp 7)),
 gv 58 (.idxA 20 (.tmp 55) (.tmp 56)),
 gv 59 (.idxP 10 2 (.tmp 58) (.tmp 57)),
 gv 60 (.fadd 1 (.tmp 59)),
 gv 61 (.load 1 false (.tmp 60)),
 gv 62 (.bin .gtr (.tmp 53) (.tmp 61)),
 gv 63 (.mv (.tmp 62)),
 gw 64 63 false (.fadd 2 (.tmp 5)),
 gw 65 63 false (.load 1 false (.tmp 64)),
 gw 66 63 false (.mv (.tmp 6)),
 gw 67 63 false (.mv (.tmp 7)),
 gw 68 63 false (.idxA 20 (.tmp 65) (.tmp 66)),
 gw 69 63 false (.idxP 10 2 (.tmp 68) (.tmp 67)),
 gw 70 63 false (.fadd 0 (.tmp 69)),
 gw 71 63 false (.load 1 false (.tmp 70)),
 gw 72 63 false (.mv (.tmp 7)),
 gw 73 63 false (.idxP 10 2 (.tmp 3) (.tmp 72)),
 gw 74 63 false (.fadd 0 (.tmp 73)),
 gw 75 63 false (.load 1 false (.tmp 74)),
 gw 76 63 false (.bin .lss (.tmp 71) (.tmp 75)),
 gv 77 (.pick (.tmp 63) (.const (.bool true)) (.tmp 76)),
 gv 78 (.mv (.tmp 77)),
 gw 79 78 false (.fadd 2 (.tmp 5)),
 gw 80 78 false (.load 1 false (.tmp 79)),
 gw 81 78 false (.mv (.tmp 6)),
 gw 82 78 false (.mv (.tmp 7)),
 gw 83 78 false (.idxA 20 (.tmp 80) (.tmp 81)),
 gw 84 78 false (.idxP 10 2 (.tmp 83) (.tmp 82)),
 gw 85 78 false (.fadd 1 (.tmp 84)),
 gw 86 78 false (.load 1 false (.tmp 85)),
 gw 87 78 false (.mv (.tmp 7)),
 gw 88 78 false (.idxP 10 2 (.tmp 3) (.tmp 87)),
 gw 89 78 false (.fadd 1 (.tmp 88)),
 gw 90 78 false (.load 1 false (.tmp 89)),
 gw 91 78 false (.bin .gtr (.tmp 86) (.tmp 90)),
 gv 92 (.pick (.tmp 78) (.const (.bool true)) (.tmp 91))]
def c30r14 : List GOp := [
 gv 2 (.mv (.const (.bool false)))]
def c30r15 : List GOp := [
 gv 44 (.mv (.tmp 7)),
 gv 45 (.bin .add (.tmp 44) (.const (.int .i64 1))),
 gv 7 (.mv (.tmp 45))]
def c30l16 : DE := .seq (.seq (.reg c30r12) (.cond (.tmp 43) (.skip) (.exit 4))) (.seq (.block 5 (.join (.par true true true 45 c30r13) (.cond (.tmp 92) (.seq (.reg c30r14) (.ret)) (.skip)))) (.reg c30r15))
def c30r17 : List GOp := [
 gv 40 (.mv (.tmp 6)),
 gv 41 (.bin .add (.tmp 40) (.const (.int .i64 1))),
 gv 6 (.mv (.tmp 41))]
def c30l18 : DE := .seq (.seq (.reg c30r10) (.cond (.tmp 39) (.skip) (.exit 2))) (.join (.block 3 (.seq (.reg c30r11) (.block 4 (.loop c30l16)))) (.reg c30r17))
def c30r19 : List GOp := [
 gv 8 (.mv (.const (.int .i64 0)))]
def c30r20 : List GOp := [
 gv 93 (.mv (.tmp 8)),
 gv 94 (.mv (.tmp 4)),
 gv 95 (.bin .lss (.tmp 93) (.tmp 94))]
def c30r21 : List GOp := [
 gv 98 (.fadd 0 (.tmp 1)),
 gv 99 (.load 1 false (.tmp 98)),
 gv 100 (.mv (.tmp 8)),
 gv 101 (.idxA 8 (.tmp 99) (.tmp 100)),
 gv 102 (.fadd 1 (.tmp 101)),
 gv 103 (.load 1 false (.tmp 102)),
 gv 104 (.fadd 1 (.tmp 5)),
 gv 105 (.load 1 false (.tmp 104)),
 gv 106 (.bin .eql (.tmp 103) (.tmp 105))]
def c30r22 : List GOp := [
 gv 2 (.mv (.const (.bool false)))]
def c30r23 : List GOp := [
 gv 96 (.mv (.tmp 8)),
 gv 97 (.bin .add (.tmp 96) (.const (.int .i64 1))),
 gv 8 (.mv (.tmp 97))]
def c30l24 : DE := .seq (.seq (.reg c30r20) (.cond (.tmp 95) (.skip) (.exit 6))) (.seq (.block 7 (.seq (.par true true true 8 c30r21) (.cond (.tmp 106) (.seq (.reg c30r22) (.ret)) (.skip)))) (.reg c30r23))
def c30r25 : List GOp := [
 gv 19 (.mv (.tmp 4)),
 gv 20 (.bin .add (.tmp 19) (.const (.int .i64 1))),
 gv 4 (.mv (.tmp 20))]
def c30l26 : DE := .seq (.seq (.reg c30r5) (.cond (.tmp 18) (.skip) (.exit 0))) (.join (.block 1 (.seq (.reg c30r6) (.seq (.join (.reg c30r7) (.cond (.tmp 34) (.seq (.reg c30r8) (.ret)) (.skip))) (.join (.seq (.reg c30r9) (.block 2 (.loop c30l18))) (.seq (.reg c30r19) (.block 6 (.loop c30l24))))))) (.reg c30r25))
def c30r27 : List GOp := [
 gv 2 (.mv (.const (.bool true)))]
def c30 : EFn := ⟨107, .seq (.reg c30r0) (.seq (.seq (.reg c30r1) (.cond (.tmp 12) (.seq (.reg c30r2) (.ret)) (.skip))) (.seq (.reg c30r3) (.join (.seq (.reg c30r4) (.block 0 (.loop c30l26))) (.seq (.reg c30r27) (.ret))))), [.tmp 2]⟩
theorem c30_ok : compF Try.prog 30 = some c30.er := by kernel_rfl
noncomputable def ref13_Valid_l181 (x3 : Rule) (k6 : Int) (v1 : (A10 Range)) : Int → Option ((Int) ⊕ ((Unit) ⊕ ((Int) ⊕ ((Unit) ⊕ ((Unit) ⊕ ((Int) ⊕ ((Unit) ⊕ (Bool))))))))
 | a7 =>
 bif (io.lt a7 10) then (
 Option.bind (
 Option.bind (idxG x3.Zones k6) fun x9 =>
 Option.bind (pixG 10 a7) fun i10 =>
 Option.bind (idxG x3.Zones k6) fun x11 =>
 bif (io.lt (x11.get i10).Hi (x9.get i10).Lo) then (
 some true
 ) else (
 Option.bind (idxG x3.Zones k6) fun x12 =>
 bif (io.lt (x12.get i10).Lo (v1.get i10).Lo) then (
 some true
 ) else (
 Option.bind (idxG x3.Zones k6) fun x13 =>
 some (io.lt (v1.get i10).Hi (x13.get i10).Hi)
 )
 )
 ) fun v8 =>
 bif v8 then (
 some (.inr (.inr (.inr (.inr (.inr (.inr (.inr false)))))))
 ) else (
 some (.inl (io.ar .add .i64 a7 1))
 )
 ) else (
 some (.inr (.inl ()))
 )
noncomputable def ref13_Valid_l179 (x3 : Rule) (v1 : (A10 Range)) : Int → Option ((Int) ⊕ ((Unit) ⊕ ((Unit) ⊕ ((Int) ⊕ ((Unit) ⊕ (Bool))))))
 | k6 =>
 bif (io.lt k6 (io.len (W eA10Range x3.Zones))) then (
 orR (
 whileG (ref13_Valid_l181 x3 k6 v1) 0
 ) fun _ =>
 some (.inl (io.ar .add .i64 k6 1))
 ) else (
 some (.inr (.inl ()))
 )
noncomputable def ref13_Valid_l182 (i2 : Int) (p : Policy) (x3 : Rule) : Int → Option ((Int) ⊕ ((Unit) ⊕ ((Int) ⊕ ((Unit) ⊕ (Bool)))))
 | k14 =>
 bif (io.lt k14 i2) then (
 Option.bind (idxG p.Rules k14) fun x15 =>
 bif (io.seq x15.Name x3.Name) then (
 some (.inr (.inr (.inr (.inr false))))
 ) else (
 some (.inl (io.ar .add .i64 k14 1))
 )
 ) else (
 some (.inr (.inl ()))
 )
noncomputable def ref13_Valid_l152 (p : Policy) (v1 : (A10 Range)) : Int → Option ((Int) ⊕ ((Unit) ⊕ (Bool)))
 | i2 =>
 bif (io.lt i2 (io.len (W eRule p.Rules))) then (
 orR (
 Option.bind (idxG p.Rules i2) fun x3 =>
 Option.bind (
 Option.bind (ref13_numbers_g x3) fun v5 =>
 bif (io.not v5) then (
 some true
 ) else (
 some (io.lt 200 (io.len (W eA10Range x3.Zones)))
 )
 ) fun v4 =>
 bif v4 then (
 some (.inr (.inr (.inr false)))
 ) else (
 orR (
 whileG (ref13_Valid_l179 x3 v1) 0
 ) fun _ =>
 whileG (ref13_Valid_l182 i2 p x3) 0
 )
 ) fun _ =>
 some (.inl (io.ar .add .i64 i2 1))
 ) else (
 some (.inr (.inl ()))
 )
noncomputable def ref13_Valid_g (p : Policy) : Option (Bool) :=
 bif (io.lt 200 (io.len (W eRule p.Rules))) then (
 some false
 ) else (
 Option.bind (ref12_Limits_g) fun v1 =>
 orR (
 whileG (ref13_Valid_l152 p v1) 0
 ) fun _ =>
 some true
 )
set_option maxHeartbeats 4000000 in
theorem ref13_Valid_R {P : Program} (hP : P = Try.prog) (p : Policy) (r : Bool) (h : ref13_Valid_g p = some r) : Fn1 P 30 [vPolicy p] (vB r) := by
 refine .walkE (hP ▸ c30_ok) fun K hK => ?_
 unfold ref13_Valid_g at h
 cbv
 refine brkG h ?_ ?_ <;> intro h
 · cbv
   obtain rfl := oj h
   exact hK _ _ aw_
 · cbv
   refine .g h (fun v hv => ref12_Limits_R hP v hv) aw_ rfl (fun _ => rfl) fun v1 h => ?_
   cbv
   refine .ga h (fun (_ : Unit) => rp 107 .top) (fun (_ : Unit) => []) (fun y hm hr1 Kn1 hKn1 => ?_) fun t h => ?_
   · have h := hm
     clear hm
     cbv
     refine .g h (fun (i2 : Int) => [.top, .ptr 0 0, .top, .ptr 1 0, oi i2] ++ rp 102 .top) (fun (i2 : Int) => [.cells [.d (.sl (W eRule p.Rules))] 24, .cells [oi v1.a0.Lo, oi v1.a0.Hi, oi v1.a1.Lo, oi v1.a1.Hi, oi v1.a2.Lo, oi v1.a2.Hi, oi v1.a3.Lo, oi v1.a3.Hi, oi v1.a4.Lo, oi v1.a4.Hi, oi v1.a5.Lo, oi v1.a5.Hi, oi v1.a6.Lo, oi v1.a6.Hi, oi v1.a7.Lo, oi v1.a7.Hi, oi v1.a8.Lo, oi v1.a8.Hi, oi v1.a9.Lo, oi v1.a9.Hi] 54]) (.nz (.mtE [0, 1] ?_)) fun s x h hr2 Kn2 hKn2 => ?_
     · (cbv; repeat (refine ⟨an_, ?_⟩; cbv))
     unfold ref13_Valid_l152 at h
     obtain ⟨i2, rfl⟩ : ∃ z, z = s := ⟨_, rfl⟩
     cbv
     refine brkG h ?_ ?_ <;> intro h
     · cbv
       refine .ga h (fun (_ : Unit) => [.top, .ptr 0 0, .top, .ptr 1 0, oi i2] ++ rp 102 .top) (fun (_ : Unit) => [.cells [.d (.sl (W eRule p.Rules))] 24, .cells [oi v1.a0.Lo, oi v1.a0.Hi, oi v1.a1.Lo, oi v1.a1.Hi, oi v1.a2.Lo, oi v1.a2.Hi, oi v1.a3.Lo, oi v1.a3.Hi, oi v1.a4.Lo, oi v1.a4.Hi, oi v1.a5.Lo, oi v1.a5.Hi, oi v1.a6.Lo, oi v1.a6.Hi, oi v1.a7.Lo, oi v1.a7.Hi, oi v1.a8.Lo, oi v1.a8.Hi, oi v1.a9.Lo, oi v1.a9.Hi] 54]) (fun y hm hr3 Kn3 hKn3 => ?_) fun t h => ?_
       · have h := hm
         clear hm
         cbv
         refine .g h (fun _ => rfl) fun x3 h => ?_
         cbv
         refine .g h (fun (v4 : Bool) => [.top, .ptr 0 0, .top, .ptr 1 0, oi i2, .ptr 2 0] ++ rp 28 .top ++ [ob v4] ++ rp 72 .top) (fun (v4 : Bool) => [.cells [.d (.sl (W eRule p.Rules))] 24, .cells [oi v1.a0.Lo, oi v1.a0.Hi, oi v1.a1.Lo, oi v1.a1.Hi, oi v1.a2.Lo, oi v1.a2.Hi, oi v1.a3.Lo, oi v1.a3.Hi, oi v1.a4.Lo, oi v1.a4.Hi, oi v1.a5.Lo, oi v1.a5.Hi, oi v1.a6.Lo, oi v1.a6.Hi, oi v1.a7.Lo, oi v1.a7.Hi, oi v1.a8.Lo, oi v1.a8.Hi, oi v1.a9.Lo, oi v1.a9.Hi] 54, .cells [oi x3.Kind, .d (.val (.string x3.Name)), .d (.sl (W eA10Range x3.Zones)), oi x3.N, oi x3.R.Num, oi x3.R.Den, oi x3.S.Num, oi x3.S.Den] 41]) (fun y hm Kn4 hKn4 => ?_) fun t h => ?_
         · have h := hm
           clear hm
           cbv
           refine .g h (fun v hv => ref13_numbers_R hP _ v hv) aw_ rfl (fun _ => rfl) fun v5 h => ?_
           cbv
           refine brkG h ?_ ?_ <;> intro h
           · cbv
             obtain rfl := oj h
             refine hKn4 _ _ _ rfl (.nz (.mtE [0, 1, 2] ?_))
             (cbv; repeat (refine ⟨an_, ?_⟩; cbv))
           · cbv
             obtain rfl := oj h
             refine hKn4 _ _ _ rfl (.nz (.mtE [0, 1, 2] ?_))
             (cbv; repeat (refine ⟨an_, ?_⟩; cbv))
         obtain ⟨v4, rfl⟩ : ∃ z, z = t := ⟨_, rfl⟩
         cbv
         refine brkG h ?_ ?_ <;> intro h
         · cbv
           obtain rfl := oj h
           obtain rfl := hr3 _ rfl
           obtain rfl := hr2 _ rfl
           obtain rfl := hr1 _ rfl
           exact hK _ _ aw_
         · cbv
           refine .ga h (fun (_ : Unit) => [.top, .ptr 0 0, .top, .ptr 1 0, oi i2, .ptr 2 0] ++ rp 101 .top) (fun (_ : Unit) => [.cells [.d (.sl (W eRule p.Rules))] 24, .cells [oi v1.a0.Lo, oi v1.a0.Hi, oi v1.a1.Lo, oi v1.a1.Hi, oi v1.a2.Lo, oi v1.a2.Hi, oi v1.a3.Lo, oi v1.a3.Hi, oi v1.a4.Lo, oi v1.a4.Hi, oi v1.a5.Lo, oi v1.a5.Hi, oi v1.a6.Lo, oi v1.a6.Hi, oi v1.a7.Lo, oi v1.a7.Hi, oi v1.a8.Lo, oi v1.a8.Hi, oi v1.a9.Lo, oi v1.a9.Hi] 54, .cells [oi x3.Kind, .d (.val (.string x3.Name)), .d (.sl (W eA10Range x3.Zones)), oi x3.N, oi x3.R.Num, oi x3.R.Den, oi x3.S.Num, oi x3.S.Den] 41]) (fun y hm hr4 Kn4 hKn4 => ?_) fun t h => ?_
           · have h := hm
             clear hm
             cbv
             refine .g h (fun (k6 : Int) => [.top, .ptr 0 0, .top, .ptr 1 0, oi i2, .ptr 2 0, oi k6] ++ rp 100 .top) (fun (k6 : Int) => [.cells [.d (.sl (W eRule p.Rules))] 24, .cells [oi v1.a0.Lo, oi v1.a0.Hi, oi v1.a1.Lo, oi v1.a1.Hi, oi v1.a2.Lo, oi v1.a2.Hi, oi v1.a3.Lo, oi v1.a3.Hi, oi v1.a4.Lo, oi v1.a4.Hi, oi v1.a5.Lo, oi v1.a5.Hi, oi v1.a6.Lo, oi v1.a6.Hi, oi v1.a7.Lo, oi v1.a7.Hi, oi v1.a8.Lo, oi v1.a8.Hi, oi v1.a9.Lo, oi v1.a9.Hi] 54, .cells [oi x3.Kind, .d (.val (.string x3.Name)), .d (.sl (W eA10Range x3.Zones)), oi x3.N, oi x3.R.Num, oi x3.R.Den, oi x3.S.Num, oi x3.S.Den] 41]) (.nz (.mtE [0, 1, 2] ?_)) fun s x h hr5 Kn5 hKn5 => ?_
             · (cbv; repeat (refine ⟨an_, ?_⟩; cbv))
             unfold ref13_Valid_l179 at h
             obtain ⟨k6, rfl⟩ : ∃ z, z = s := ⟨_, rfl⟩
             cbv
             refine brkG h ?_ ?_ <;> intro h
             · cbv
               refine .ga h (fun (_ : Unit) => [.top, .ptr 0 0, .top, .ptr 1 0, oi i2, .ptr 2 0, oi k6] ++ rp 100 .top) (fun (_ : Unit) => [.cells [.d (.sl (W eRule p.Rules))] 24, .cells [oi v1.a0.Lo, oi v1.a0.Hi, oi v1.a1.Lo, oi v1.a1.Hi, oi v1.a2.Lo, oi v1.a2.Hi, oi v1.a3.Lo, oi v1.a3.Hi, oi v1.a4.Lo, oi v1.a4.Hi, oi v1.a5.Lo, oi v1.a5.Hi, oi v1.a6.Lo, oi v1.a6.Hi, oi v1.a7.Lo, oi v1.a7.Hi, oi v1.a8.Lo, oi v1.a8.Hi, oi v1.a9.Lo, oi v1.a9.Hi] 54, .cells [oi x3.Kind, .d (.val (.string x3.Name)), .d (.sl (W eA10Range x3.Zones)), oi x3.N, oi x3.R.Num, oi x3.R.Den, oi x3.S.Num, oi x3.S.Den] 41]) (fun y hm hr6 Kn6 hKn6 => ?_) fun t h => ?_
               · have h := hm
                 clear hm
                 cbv
                 refine .g h (fun (a7 : Int) => [.top, .ptr 0 0, .top, .ptr 1 0, oi i2, .ptr 2 0, oi k6, oi a7] ++ rp 99 .top) (fun (a7 : Int) => [.cells [.d (.sl (W eRule p.Rules))] 24, .cells [oi v1.a0.Lo, oi v1.a0.Hi, oi v1.a1.Lo, oi v1.a1.Hi, oi v1.a2.Lo, oi v1.a2.Hi, oi v1.a3.Lo, oi v1.a3.Hi, oi v1.a4.Lo, oi v1.a4.Hi, oi v1.a5.Lo, oi v1.a5.Hi, oi v1.a6.Lo, oi v1.a6.Hi, oi v1.a7.Lo, oi v1.a7.Hi, oi v1.a8.Lo, oi v1.a8.Hi, oi v1.a9.Lo, oi v1.a9.Hi] 54, .cells [oi x3.Kind, .d (.val (.string x3.Name)), .d (.sl (W eA10Range x3.Zones)), oi x3.N, oi x3.R.Num, oi x3.R.Den, oi x3.S.Num, oi x3.S.Den] 41]) (.nz (.mtE [0, 1, 2] ?_)) fun s x h hr7 Kn7 hKn7 => ?_
                 · (cbv; repeat (refine ⟨an_, ?_⟩; cbv))
                 unfold ref13_Valid_l181 at h
                 obtain ⟨a7, rfl⟩ : ∃ z, z = s := ⟨_, rfl⟩
                 cbv
                 refine brkG h ?_ ?_ <;> intro h
                 · cbv
                   refine .g h (fun (v8 : Bool) => [.top, .ptr 0 0, .top, .ptr 1 0, oi i2, .ptr 2 0, oi k6, oi a7] ++ rp 84 .top ++ [ob v8] ++ rp 14 .top) (fun (v8 : Bool) => [.cells [.d (.sl (W eRule p.Rules))] 24, .cells [oi v1.a0.Lo, oi v1.a0.Hi, oi v1.a1.Lo, oi v1.a1.Hi, oi v1.a2.Lo, oi v1.a2.Hi, oi v1.a3.Lo, oi v1.a3.Hi, oi v1.a4.Lo, oi v1.a4.Hi, oi v1.a5.Lo, oi v1.a5.Hi, oi v1.a6.Lo, oi v1.a6.Hi, oi v1.a7.Lo, oi v1.a7.Hi, oi v1.a8.Lo, oi v1.a8.Hi, oi v1.a9.Lo, oi v1.a9.Hi] 54, .cells [oi x3.Kind, .d (.val (.string x3.Name)), .d (.sl (W eA10Range x3.Zones)), oi x3.N, oi x3.R.Num, oi x3.R.Den, oi x3.S.Num, oi x3.S.Den] 41]) (fun y hm Kn8 hKn8 => ?_) fun t h => ?_
                   · have h := hm
                     clear hm
                     cbv
                     refine .g h (fun _ => rfl) fun x9 h => ?_
                     cbv
                     refine .c10 h ?_ ?_ ?_ ?_ ?_ ?_ ?_ ?_ ?_ ?_ <;> (
                       intro hni10 h
                       cbv
                       refine .g h (fun _ => rfl) fun x11 h => ?_
                       cbv
                       refine .at _ hni10 (by decide) ?_
                       cbv
                       refine brkG h ?_ ?_ <;> intro h
                       · cbv
                         obtain rfl := oj h
                         refine hKn8 _ _ _ rfl (.nz (.mtE [0, 1, 2] ?_))
                         (cbv; repeat (refine ⟨an_, ?_⟩; cbv))
                       · cbv
                         refine .g h (fun _ => rfl) fun x12 h => ?_
                         cbv
                         refine .at _ hni10 (by decide) ?_
                         cbv
                         refine .at _ hni10 (by decide) ?_
                         cbv
                         refine brkG h ?_ ?_ <;> intro h
                         · cbv
                           obtain rfl := oj h
                           refine hKn8 _ _ _ rfl (.nz (.mtE [0, 1, 2] ?_))
                           (cbv; repeat (refine ⟨an_, ?_⟩; cbv))
                         · cbv
                           refine .g h (fun _ => rfl) fun x13 h => ?_
                           cbv
                           refine .at _ hni10 (by decide) ?_
                           cbv
                           refine .at _ hni10 (by decide) ?_
                           cbv
                           obtain rfl := oj h
                           refine hKn8 _ _ _ rfl (.nz (.mtE [0, 1, 2] ?_))
                           (cbv; repeat (refine ⟨an_, ?_⟩; cbv))
                       )
                   obtain ⟨v8, rfl⟩ : ∃ z, z = t := ⟨_, rfl⟩
                   cbv
                   refine brkG h ?_ ?_ <;> intro h
                   · cbv
                     obtain rfl := oj h
                     obtain rfl := hr7 _ rfl
                     obtain rfl := hr6 _ rfl
                     obtain rfl := hr5 _ rfl
                     obtain rfl := hr4 _ rfl
                     obtain rfl := hr3 _ rfl
                     obtain rfl := hr2 _ rfl
                     obtain rfl := hr1 _ rfl
                     exact hK _ _ aw_
                   · cbv
                     obtain rfl := oj h
                     refine hKn7 _ _ _ rfl (.nz (.mtE [0, 1, 2] ?_))
                     (cbv; repeat (refine ⟨an_, ?_⟩; cbv))
                 · cbv
                   obtain rfl := oj h
                   obtain rfl := hr7 _ rfl
                   refine hKn6 _ _ _ rfl (.nz (.mtE [0, 1, 2] ?_))
                   (cbv; repeat (refine ⟨an_, ?_⟩; cbv))
               cbv
               obtain rfl := oj h
               refine hKn5 _ _ _ rfl (.nz (.mtE [0, 1, 2] ?_))
               (cbv; repeat (refine ⟨an_, ?_⟩; cbv))
             · cbv
               obtain rfl := oj h
               obtain rfl := hr5 _ rfl
               refine hKn4 _ _ _ rfl (.nz (.mtE [0, 1, 2] ?_))
               (cbv; repeat (refine ⟨an_, ?_⟩; cbv))
           cbv
           refine .g h (fun (k14 : Int) => [.top, .ptr 0 0, .top, .ptr 1 0, oi i2, .ptr 2 0, .top, .top, oi k14] ++ rp 98 .top) (fun (k14 : Int) => [.cells [.d (.sl (W eRule p.Rules))] 24, .cells [oi v1.a0.Lo, oi v1.a0.Hi, oi v1.a1.Lo, oi v1.a1.Hi, oi v1.a2.Lo, oi v1.a2.Hi, oi v1.a3.Lo, oi v1.a3.Hi, oi v1.a4.Lo, oi v1.a4.Hi, oi v1.a5.Lo, oi v1.a5.Hi, oi v1.a6.Lo, oi v1.a6.Hi, oi v1.a7.Lo, oi v1.a7.Hi, oi v1.a8.Lo, oi v1.a8.Hi, oi v1.a9.Lo, oi v1.a9.Hi] 54, .cells [oi x3.Kind, .d (.val (.string x3.Name)), .d (.sl (W eA10Range x3.Zones)), oi x3.N, oi x3.R.Num, oi x3.R.Den, oi x3.S.Num, oi x3.S.Den] 41]) (.nz (.mtE [0, 1, 2] ?_)) fun s x h hr4 Kn4 hKn4 => ?_
           · (cbv; repeat (refine ⟨an_, ?_⟩; cbv))
           unfold ref13_Valid_l182 at h
           obtain ⟨k14, rfl⟩ : ∃ z, z = s := ⟨_, rfl⟩
           cbv
           refine brkG h ?_ ?_ <;> intro h
           · cbv
             refine .g h (fun _ => rfl) fun x15 h => ?_
             cbv
             refine brkG h ?_ ?_ <;> intro h
             · cbv
               obtain rfl := oj h
               obtain rfl := hr4 _ rfl
               obtain rfl := hr3 _ rfl
               obtain rfl := hr2 _ rfl
               obtain rfl := hr1 _ rfl
               exact hK _ _ aw_
             · cbv
               obtain rfl := oj h
               refine hKn4 _ _ _ rfl (.nz (.mtE [0, 1, 2] ?_))
               (cbv; repeat (refine ⟨an_, ?_⟩; cbv))
           · cbv
             obtain rfl := oj h
             obtain rfl := hr4 _ rfl
             refine hKn3 _ _ _ rfl (.nz (.mtE [0, 1] ?_))
             (cbv; repeat (refine ⟨an_, ?_⟩; cbv))
       cbv
       obtain rfl := oj h
       refine hKn2 _ _ _ rfl (.nz (.mtE [0, 1] ?_))
       (cbv; repeat (refine ⟨an_, ?_⟩; cbv))
     · cbv
       obtain rfl := oj h
       obtain rfl := hr2 _ rfl
       refine hKn1 _ _ _ rfl (.nz (.mtE [] ?_))
       (cbv; repeat (refine ⟨an_, ?_⟩; cbv))
   cbv
   obtain rfl := oj h
   exact hK _ _ aw_
end Go.SX.Cl
