/- Parts of the proof. -/
import Derived.Test.YtllbabjgpdmblaaYClT
import Derived.Test.YtllbabjgpdmblaaYCl15
namespace Go.SX.Cl
open Go Go.SX Go.Proofs
set_option maxRecDepth 100000
def c62r0 : List GOp := [
 gv 2 (.box 39 (.tmp 0)),
 gv 4 (.mv (.const (.bool false)))]
def c62r1 : List GOp := [
 gv 5 (.fadd 1 (.tmp 2)),
 gv 6 (.load 1 false (.tmp 5)),
 gv 7 (.bin .geq (.tmp 6) (.const (.int .i64 1))),
 gv 8 (.mv (.tmp 7)),
 gw 9 8 true (.fadd 1 (.tmp 2)),
 gw 10 8 true (.load 1 false (.tmp 9)),
 gw 11 8 true (.bin .leq (.tmp 10) (.const (.int .i64 1000000))),
 gv 12 (.pick (.tmp 8) (.tmp 11) (.const (.bool false))),
 gv 13 (.mv (.tmp 12)),
 gw 14 13 true (.fadd 0 (.tmp 2)),
 gw 15 13 true (.load 1 false (.tmp 14)),
 gw 16 13 true (.bin .geq (.tmp 15) (.const (.int .i64 0))),
 gv 17 (.pick (.tmp 13) (.tmp 16) (.const (.bool false))),
 gv 18 (.mv (.tmp 17)),
 gw 19 18 true (.fadd 0 (.tmp 2)),
 gw 20 18 true (.load 1 false (.tmp 19)),
 gw 21 18 true (.mv (.tmp 1)),
 gw 22 18 true (.fadd 1 (.tmp 2)),
 gw 23 18 true (.load 1 false (.tmp 22)),
 gw 24 18 true (.bin .mul (.tmp 21) (.tmp 23)),
 gw 25 18 true (.bin .leq (.tmp 20) (.tmp 24)),
 gv 26 (.pick (.tmp 18) (.tmp 25) (.const (.bool false))),
 gv 27 (.mv (.tmp 26)),
 gw 28 27 true (.fadd 0 (.tmp 2)),
 gw 29 27 true (.load 1 false (.tmp 28)),
 gw 30 27 true (.bin .leq (.tmp 29) (.const (.int .i64 1000000))),
 gv 31 (.pick (.tmp 27) (.tmp 30) (.const (.bool false))),
 gv 4 (.mv (.tmp 31))]
def c62 : EFn := ⟨32, .seq (.reg c62r0) (.seq (.reg c62r1) (.ret)), [.tmp 4]⟩
theorem c62_ok : compF Try.prog 62 = some c62.er := by kernel_rfl
def c44r0 : List GOp := [
 gv 1 (.box 41 (.tmp 0)),
 gv 2 (.mv (.const (.bool false)))]
def c44r1 : List GOp := [
 gv 3 (.fadd 0 (.tmp 1)),
 gv 4 (.load 1 false (.tmp 3))]
def c44r2 : List GOp := [
 gv 6 (.bin .eql (.tmp 4) (.const (.int .i64 1))),
 gv 5 (.mv (.tmp 6))]
def c44r3 : List GOp := [
 gv 7 (.fadd 3 (.tmp 1)),
 gv 8 (.load 1 false (.tmp 7)),
 gv 9 (.bin .geq (.tmp 8) (.const (.int .i64 0))),
 gv 10 (.mv (.tmp 9)),
 gw 11 10 true (.fadd 3 (.tmp 1)),
 gw 12 10 true (.load 1 false (.tmp 11)),
 gw 13 10 true (.bin .leq (.tmp 12) (.const (.int .i64 100))),
 gv 14 (.pick (.tmp 10) (.tmp 13) (.const (.bool false))),
 gv 2 (.mv (.tmp 14))]
def c44r4 : List GOp := [
 gv 16 (.bin .eql (.tmp 4) (.const (.int .i64 3))),
 gv 15 (.mv (.tmp 16))]
def c44r5 : List GOp := [
 gv 17 (.fadd 3 (.tmp 1)),
 gv 18 (.load 1 false (.tmp 17)),
 gv 19 (.bin .geq (.tmp 18) (.const (.int .i64 0))),
 gv 20 (.mv (.tmp 19)),
 gw 21 20 true (.fadd 3 (.tmp 1)),
 gw 22 20 true (.load 1 false (.tmp 21)),
 gw 23 20 true (.bin .leq (.tmp 22) (.const (.int .i64 10000000))),
 gv 24 (.pick (.tmp 20) (.tmp 23) (.const (.bool false))),
 gv 25 (.mv (.tmp 24)),
 gw 26 25 true (.fadd 4 (.tmp 1)),
 gw 27 25 true (.load 2 true (.tmp 26)),
 gw 28 25 true (.call 62 [(.tmp 27), (.const (.int .i64 1))]),
 gv 29 (.pick (.tmp 25) (.tmp 28) (.const (.bool false))),
 gv 30 (.mv (.tmp 29)),
 gw 31 30 true (.fadd 6 (.tmp 1)),
 gw 32 30 true (.load 2 true (.tmp 31)),
 gw 33 30 true (.call 62 [(.tmp 32), (.const (.int .i64 1))]),
 gv 34 (.pick (.tmp 30) (.tmp 33) (.const (.bool false))),
 gv 2 (.mv (.tmp 34))]
def c44r6 : List GOp := [
 gv 36 (.bin .eql (.tmp 4) (.const (.int .i64 4))),
 gv 35 (.mv (.tmp 36))]
def c44r7 : List GOp := [
 gv 37 (.fadd 4 (.tmp 1)),
 gv 38 (.load 2 true (.tmp 37)),
 gv 39 (.call 62 [(.tmp 38), (.const (.int .i64 10))]),
 gv 40 (.mv (.tmp 39)),
 gw 41 40 true (.fadd 6 (.tmp 1)),
 gw 42 40 true (.load 2 true (.tmp 41)),
 gw 43 40 true (.call 62 [(.tmp 42), (.const (.int .i64 1))]),
 gv 44 (.pick (.tmp 40) (.tmp 43) (.const (.bool false))),
 gv 2 (.mv (.tmp 44))]
def c44r8 : List GOp := [
 gv 46 (.bin .eql (.tmp 4) (.const (.int .i64 5))),
 gv 45 (.mv (.tmp 46))]
def c44r9 : List GOp := [
 gv 47 (.fadd 4 (.tmp 1)),
 gv 48 (.load 2 true (.tmp 47)),
 gv 49 (.call 62 [(.tmp 48), (.const (.int .i64 1))]),
 gv 2 (.mv (.tmp 49))]
def c44r10 : List GOp := [
 gv 51 (.bin .eql (.tmp 4) (.const (.int .i64 2))),
 gv 50 (.mv (.tmp 51))]
def c44r11 : List GOp := [
 gv 52 (.bin .eql (.tmp 4) (.const (.int .i64 6))),
 gv 50 (.mv (.tmp 52))]
def c44r12 : List GOp := [
 gv 53 (.bin .eql (.tmp 4) (.const (.int .i64 7))),
 gv 50 (.mv (.tmp 53))]
def c44r13 : List GOp := [
 gv 2 (.mv (.const (.bool true)))]
def c44r14 : List GOp := [
 gv 2 (.mv (.const (.bool false)))]
def c44 : EFn := ⟨54, .seq (.reg c44r0) (.seq (.seq (.reg c44r1) (.block 0 (.seq (.reg c44r2) (.cond (.tmp 5) (.seq (.reg c44r3) (.ret)) (.seq (.reg c44r4) (.cond (.tmp 15) (.seq (.reg c44r5) (.ret)) (.seq (.reg c44r6) (.cond (.tmp 35) (.seq (.reg c44r7) (.ret)) (.seq (.reg c44r8) (.cond (.tmp 45) (.seq (.reg c44r9) (.ret)) (.join (.seq (.reg c44r10) (.cond (.tmp 50) (.skip) (.seq (.reg c44r11) (.cond (.tmp 50) (.skip) (.reg c44r12))))) (.cond (.tmp 50) (.seq (.reg c44r13) (.ret)) (.skip))))))))))))) (.seq (.reg c44r14) (.ret))), [.tmp 2]⟩
theorem c44_ok : compF Try.prog 44 = some c44.er := by kernel_rfl
noncomputable def decide_numbers_g (r_ : Rule) : Option (Bool) :=
 bif (io.eq r_.Kind 1) then (
 bif (io.le 0 r_.N) then (
 some (io.le r_.N 100)
 ) else (
 some false
 )
 ) else (
 bif (io.eq r_.Kind 3) then (
 bif (io.le 0 r_.N) then (
 bif (io.le r_.N 10000000) then (
 bif (io.le 1 r_.R.Den) then (
 bif (io.le r_.R.Den 1000000) then (
 bif (io.le 0 r_.R.Num) then (
 bif (io.le r_.R.Num (io.ar .mul .i64 1 r_.R.Den)) then (
 bif (io.le r_.R.Num 1000000) then (
 bif (io.le 1 r_.S.Den) then (
 bif (io.le r_.S.Den 1000000) then (
 bif (io.le 0 r_.S.Num) then (
 bif (io.le r_.S.Num (io.ar .mul .i64 1 r_.S.Den)) then (
 some (io.le r_.S.Num 1000000)
 ) else (
 some false
 )
 ) else (
 some false
 )
 ) else (
 some false
 )
 ) else (
 some false
 )
 ) else (
 some false
 )
 ) else (
 some false
 )
 ) else (
 some false
 )
 ) else (
 some false
 )
 ) else (
 some false
 )
 ) else (
 some false
 )
 ) else (
 some false
 )
 ) else (
 bif (io.eq r_.Kind 4) then (
 bif (io.le 1 r_.R.Den) then (
 bif (io.le r_.R.Den 1000000) then (
 bif (io.le 0 r_.R.Num) then (
 bif (io.le r_.R.Num (io.ar .mul .i64 10 r_.R.Den)) then (
 bif (io.le r_.R.Num 1000000) then (
 bif (io.le 1 r_.S.Den) then (
 bif (io.le r_.S.Den 1000000) then (
 bif (io.le 0 r_.S.Num) then (
 bif (io.le r_.S.Num (io.ar .mul .i64 1 r_.S.Den)) then (
 some (io.le r_.S.Num 1000000)
 ) else (
 some false
 )
 ) else (
 some false
 )
 ) else (
 some false
 )
 ) else (
 some false
 )
 ) else (
 some false
 )
 ) else (
 some false
 )
 ) else (
 some false
 )
 ) else (
 some false
 )
 ) else (
 some false
 )
 ) else (
 bif (io.eq r_.Kind 5) then (
 bif (io.le 1 r_.R.Den) then (
 bif (io.le r_.R.Den 1000000) then (
 bif (io.le 0 r_.R.Num) then (
 bif (io.le r_.R.Num (io.ar .mul .i64 1 r_.R.Den)) then (
 some (io.le r_.R.Num 1000000)
 ) else (
 some false
 )
 ) else (
 some false
 )
 ) else (
 some false
 )
 ) else (
 some false
 )
 ) else (
 Option.bind (
 bif (io.eq r_.Kind 2) then (
 some (io.eq r_.Kind 2)
 ) else (
 bif (io.eq r_.Kind 6) then (
 some (io.eq r_.Kind 6)
 ) else (
 some (io.eq r_.Kind 7)
 )
 )
 ) fun v1 =>
 bif v1 then (
 some true
 ) else (
 some false
 )
 )
 )
 )
 )
set_option maxHeartbeats 4000000 in
theorem decide_numbers_R {P : Program} (hP : P = Try.prog) (r_ : Rule) (r : Bool) (h : decide_numbers_g r_ = some r) : Fn1 P 44 [vRule r_] (vB r) := by
 refine .walkE (hP ▸ c44_ok) fun K hK => ?_
 unfold decide_numbers_g at h
 cbv
 refine brkG h (fun h => ?_) (fun h => ?_)
 · cbv
   refine brkG h (fun h => ?_) (fun h => ?_)
   · cbv
     obtain rfl := oj h
     exact hK _ _ (by first | rfl | exact W_nil _ | (cbv; simp only [W_nilx]))
   · cbv
     obtain rfl := oj h
     exact hK _ _ (by first | rfl | exact W_nil _ | (cbv; simp only [W_nilx]))
 · cbv
   refine brkG h (fun h => ?_) (fun h => ?_)
   · cbv
     refine brkG h (fun h => ?_) (fun h => ?_)
     · cbv
       refine brkG h (fun h => ?_) (fun h => ?_)
       · cbv
         refine .inl (hP ▸ c62_ok) ?_
         cbv
         refine brkG h (fun h => ?_) (fun h => ?_)
         · cbv
           refine brkG h (fun h => ?_) (fun h => ?_)
           · cbv
             refine brkG h (fun h => ?_) (fun h => ?_)
             · cbv
               refine brkG h (fun h => ?_) (fun h => ?_)
               · cbv
                 refine brkG h (fun h => ?_) (fun h => ?_)
                 · cbv
                   refine .inl (hP ▸ c62_ok) ?_
                   cbv
                   refine brkG h (fun h => ?_) (fun h => ?_)
                   · cbv
                     refine brkG h (fun h => ?_) (fun h => ?_)
                     · cbv
                       refine brkG h (fun h => ?_) (fun h => ?_)
                       · cbv
                         refine brkG h (fun h => ?_) (fun h => ?_)
                         · cbv
                           obtain rfl := oj h
                           exact hK _ _ (by first | rfl | exact W_nil _ | (cbv; simp only [W_nilx]))
                         · cbv
                           obtain rfl := oj h
                           exact hK _ _ (by first | rfl | exact W_nil _ | (cbv; simp only [W_nilx]))
                       · cbv
                         obtain rfl := oj h
                         exact hK _ _ (by first | rfl | exact W_nil _ | (cbv; simp only [W_nilx]))
                     · cbv
                       obtain rfl := oj h
                       exact hK _ _ (by first | rfl | exact W_nil _ | (cbv; simp only [W_nilx]))
                   · cbv
                     obtain rfl := oj h
                     exact hK _ _ (by first | rfl | exact W_nil _ | (cbv; simp only [W_nilx]))
                 · cbv
                   obtain rfl := oj h
                   exact hK _ _ (by first | rfl | exact W_nil _ | (cbv; simp only [W_nilx]))
               · cbv
                 obtain rfl := oj h
                 exact hK _ _ (by first | rfl | exact W_nil _ | (cbv; simp only [W_nilx]))
             · cbv
               obtain rfl := oj h
               exact hK _ _ (by first | rfl | exact W_nil _ | (cbv; simp only [W_nilx]))
           · cbv
             obtain rfl := oj h
             exact hK _ _ (by first | rfl | exact W_nil _ | (cbv; simp only [W_nilx]))
         · cbv
           obtain rfl := oj h
           exact hK _ _ (by first | rfl | exact W_nil _ | (cbv; simp only [W_nilx]))
       · cbv
         obtain rfl := oj h
         exact hK _ _ (by first | rfl | exact W_nil _ | (cbv; simp only [W_nilx]))
     · cbv
       obtain rfl := oj h
       exact hK _ _ (by first | rfl | exact W_nil _ | (cbv; simp only [W_nilx]))
   · cbv
     refine brkG h (fun h => ?_) (fun h => ?_)
     · cbv
       refine .inl (hP ▸ c62_ok) ?_
       cbv
       refine brkG h (fun h => ?_) (fun h => ?_)
       · cbv
         refine brkG h (fun h => ?_) (fun h => ?_)
         · cbv
           refine brkG h (fun h => ?_) (fun h => ?_)
           · cbv
             refine brkG h (fun h => ?_) (fun h => ?_)
             · cbv
               refine brkG h (fun h => ?_) (fun h => ?_)
               · cbv
                 refine .inl (hP ▸ c62_ok) ?_
                 cbv
                 refine brkG h (fun h => ?_) (fun h => ?_)
                 · cbv
                   refine brkG h (fun h => ?_) (fun h => ?_)
                   · cbv
                     refine brkG h (fun h => ?_) (fun h => ?_)
                     · cbv
                       refine brkG h (fun h => ?_) (fun h => ?_)
                       · cbv
                         obtain rfl := oj h
                         exact hK _ _ (by first | rfl | exact W_nil _ | (cbv; simp only [W_nilx]))
                       · cbv
                         obtain rfl := oj h
                         exact hK _ _ (by first | rfl | exact W_nil _ | (cbv; simp only [W_nilx]))
                     · cbv
                       obtain rfl := oj h
                       exact hK _ _ (by first | rfl | exact W_nil _ | (cbv; simp only [W_nilx]))
                   · cbv
                     obtain rfl := oj h
                     exact hK _ _ (by first | rfl | exact W_nil _ | (cbv; simp only [W_nilx]))
                 · cbv
                   obtain rfl := oj h
                   exact hK _ _ (by first | rfl | exact W_nil _ | (cbv; simp only [W_nilx]))
               · cbv
                 obtain rfl := oj h
                 exact hK _ _ (by first | rfl | exact W_nil _ | (cbv; simp only [W_nilx]))
             · cbv
               obtain rfl := oj h
               exact hK _ _ (by first | rfl | exact W_nil _ | (cbv; simp only [W_nilx]))
           · cbv
             obtain rfl := oj h
             exact hK _ _ (by first | rfl | exact W_nil _ | (cbv; simp only [W_nilx]))
         · cbv
           obtain rfl := oj h
           exact hK _ _ (by first | rfl | exact W_nil _ | (cbv; simp only [W_nilx]))
       · cbv
         obtain rfl := oj h
         exact hK _ _ (by first | rfl | exact W_nil _ | (cbv; simp only [W_nilx]))
     · cbv
       refine brkG h (fun h => ?_) (fun h => ?_)
       · cbv
         refine .inl (hP ▸ c62_ok) ?_
         cbv
         refine brkG h (fun h => ?_) (fun h => ?_)
         · cbv
           refine brkG h (fun h => ?_) (fun h => ?_)
           · cbv
             refine brkG h (fun h => ?_) (fun h => ?_)
             · cbv
               refine brkG h (fun h => ?_) (fun h => ?_)
               · cbv
                 obtain rfl := oj h
                 exact hK _ _ (by first | rfl | exact W_nil _ | (cbv; simp only [W_nilx]))
               · cbv
                 obtain rfl := oj h
                 exact hK _ _ (by first | rfl | exact W_nil _ | (cbv; simp only [W_nilx]))
             · cbv
               obtain rfl := oj h
               exact hK _ _ (by first | rfl | exact W_nil _ | (cbv; simp only [W_nilx]))
           · cbv
             obtain rfl := oj h
             exact hK _ _ (by first | rfl | exact W_nil _ | (cbv; simp only [W_nilx]))
         · cbv
           obtain rfl := oj h
           exact hK _ _ (by first | rfl | exact W_nil _ | (cbv; simp only [W_nilx]))
       · cbv
         refine .g h (fun (v1 : Bool) => rp 50 .top ++ [ob v1] ++ rp 3 .top) (fun (v1 : Bool) => []) (fun y hm Kn1 hKn1 => ?_) fun t h => ?_
         · have h := hm
           clear hm
           cbv
           refine brkG h (fun h => ?_) (fun h => ?_)
           · cbv
             obtain rfl := oj h
             refine hKn1 _ _ _ rfl (.nz (.mtE [] ?_))
             (cbv; repeat (refine ⟨an_, ?_⟩; cbv))
           · cbv
             refine brkG h (fun h => ?_) (fun h => ?_)
             · cbv
               obtain rfl := oj h
               refine hKn1 _ _ _ rfl (.nz (.mtE [] ?_))
               (cbv; repeat (refine ⟨an_, ?_⟩; cbv))
             · cbv
               obtain rfl := oj h
               refine hKn1 _ _ _ rfl (.nz (.mtE [] ?_))
               (cbv; repeat (refine ⟨an_, ?_⟩; cbv))
         obtain ⟨v1, rfl⟩ : ∃ z, z = t := ⟨_, rfl⟩
         cbv
         refine brkG h (fun h => ?_) (fun h => ?_)
         · cbv
           obtain rfl := oj h
           exact hK _ _ (by first | rfl | exact W_nil _ | (cbv; simp only [W_nilx]))
         · cbv
           obtain rfl := oj h
           exact hK _ _ (by first | rfl | exact W_nil _ | (cbv; simp only [W_nilx]))
end Go.SX.Cl
namespace Go.SX.Cl
open Go Go.SX Go.Proofs
set_option maxRecDepth 100000
def c46r0 : List GOp := [
 gv 1 (.box 54 (.tmp 0)),
 gv 2 (.mv (.const (.bool false)))]
def c46r1 : List GOp := [
 gv 6 (.call 22 []),
 gv 3 (.alloc 54 (.agg #[oz, oz, oz, oz, oz, oz, oz, oz, oz, oz, oz, oz, oz, oz, oz, oz, oz, oz, oz, oz])),
 ⟨none, .store 20 (.tmp 3) (.tmp 6), none⟩]
def c46r2 : List GOp := [
 gv 7 (.load 20 true (.tmp 1)),
 gv 8 (.mv (.const (.int .i64 0)))]
def c46r3 : List GOp := [
 gv 9 (.bin .lss (.tmp 8) (.const (.int .i64 10)))]
def c46r4 : List GOp := [
 gv 10 (.mv (.tmp 8)),
 gv 11 (.idxV 10 2 true (.tmp 7) (.tmp 8)),
 gv 5 (.alloc 52 (.agg #[oz, oz])),
 gv 4 (.mv (.tmp 10)),
 ⟨none, .store 2 (.tmp 5) (.tmp 11), none⟩]
def c46r5 : List GOp := [
 gv 12 (.fadd 0 (.tmp 5)),
 gv 13 (.load 1 false (.tmp 12)),
 gv 14 (.fadd 1 (.tmp 5)),
 gv 15 (.load 1 false (.tmp 14)),
 gv 16 (.bin .gtr (.tmp 13) (.tmp 15)),
 gv 17 (.mv (.tmp 16)),
 gw 18 17 false (.fadd 0 (.tmp 5)),
 gw 19 17 false (.load 1 false (.tmp 18)),
 gw 20 17 false (.mv (.tmp 4)),
 gw 21 17 false (.idxP 10 2 (.tmp 3) (.tmp 20)),
 gw 22 17 false (.fadd 0 (.tmp 21)),
 gw 23 17 false (.load 1 false (.tmp 22)),
 gw 24 17 false (.bin .lss (.tmp 19) (.tmp 23)),
 gv 25 (.pick (.tmp 17) (.const (.bool true)) (.tmp 24)),
 gv 26 (.mv (.tmp 25)),
 gw 27 26 false (.fadd 1 (.tmp 5)),
 gw 28 26 false (.load 1 false (.tmp 27)),
 gw 29 26 false (.mv (.tmp 4)),
 gw 30 26 false (.idxP 10 2 (.tmp 3) (.tmp 29)),
 gw 31 26 false (.fadd 1 (.tmp 30)),
 gw 32 26 false (.load 1 false (.tmp 31)),
 gw 33 26 false (.bin .gtr (.tmp 28) (.tmp 32)),
 gv 34 (.pick (.tmp 26) (.const (.bool true)) (.tmp 33))]
def c46r6 : List GOp := [
 gv 2 (.mv (.const (.bool false)))]
def c46r7 : List GOp := [
 gv 35 (.bin .add (.tmp 8) (.const (.int .i64 1))),
 gv 8 (.mv (.tmp 35))]
def c46l8 : DE := .seq (.reg c46r3) (.seq (.cond (.tmp 9) (.skip) (.exit 0)) (.seq (.block 1 (.join (.reg c46r4) (.join (.par true true true 21 c46r5) (.cond (.tmp 34) (.seq (.reg c46r6) (.ret)) (.skip))))) (.reg c46r7)))
def c46r9 : List GOp := [
 gv 2 (.mv (.const (.bool true)))]
def c46 : EFn := ⟨36, .seq (.reg c46r0) (.seq (.reg c46r1) (.join (.seq (.reg c46r2) (.block 0 (.loop c46l8))) (.seq (.reg c46r9) (.ret)))), [.tmp 2]⟩
theorem c46_ok : compF Try.prog 46 = some c46.er := by kernel_rfl
noncomputable def decide_within_l2 (z : (A10 Range)) (v1 : (A10 Range)) : Int → Option ((Int) ⊕ ((Unit) ⊕ (Bool)))
 | v2 =>
 bif (io.lt v2 10) then (
 Option.bind (
 Option.bind (pixG 10 v2) fun i5 =>
 some ((z.get i5).Lo, (z.get i5).Hi)
 ) fun (Lo3, Hi4) =>
 Option.bind (
 bif (io.lt Hi4 Lo3) then (
 some true
 ) else (
 Option.bind (pixG 10 v2) fun i7 =>
 bif (io.lt Lo3 (v1.get i7).Lo) then (
 some true
 ) else (
 some (io.lt (v1.get i7).Hi Hi4)
 )
 )
 ) fun v6 =>
 bif v6 then (
 some (.inr (.inr false))
 ) else (
 some (.inl (io.ar .add .i64 v2 1))
 )
 ) else (
 some (.inr (.inl ()))
 )
noncomputable def decide_within_g (z : (A10 Range)) : Option (Bool) :=
 Option.bind (resolve_Limits_g) fun v1 =>
 orR (
 whileG (decide_within_l2 z v1) 0
 ) fun _ =>
 some true
set_option maxHeartbeats 4000000 in
theorem decide_within_R {P : Program} (hP : P = Try.prog) (z : (A10 Range)) (r : Bool) (h : decide_within_g z = some r) : Fn1 P 46 [vA10Range z] (vB r) := by
 refine .walkE (hP ▸ c46_ok) fun K hK => ?_
 unfold decide_within_g at h
 cbv
 refine .g h (fun v hv => resolve_Limits_R hP v hv) (by first | rfl | exact W_nil _ | (cbv; simp only [W_nilx])) rfl (fun _ => rfl) fun v1 h => ?_
 cbv
 refine .ga h (fun (_ : Unit) => rp 36 .top) (fun (_ : Unit) => []) (fun y hm hr1 Kn1 hKn1 => ?_) fun t h => ?_
 · have h := hm
   clear hm
   cbv
   refine .g h (fun (v2 : Int) => rp 3 .top ++ [.ptr 0 0] ++ rp 3 .top ++ [.agg [oi z.a0.Lo, oi z.a0.Hi, oi z.a1.Lo, oi z.a1.Hi, oi z.a2.Lo, oi z.a2.Hi, oi z.a3.Lo, oi z.a3.Hi, oi z.a4.Lo, oi z.a4.Hi, oi z.a5.Lo, oi z.a5.Hi, oi z.a6.Lo, oi z.a6.Hi, oi z.a7.Lo, oi z.a7.Hi, oi z.a8.Lo, oi z.a8.Hi, oi z.a9.Lo, oi z.a9.Hi], oi v2] ++ rp 27 .top) (fun (v2 : Int) => [.cells [oi v1.a0.Lo, oi v1.a0.Hi, oi v1.a1.Lo, oi v1.a1.Hi, oi v1.a2.Lo, oi v1.a2.Hi, oi v1.a3.Lo, oi v1.a3.Hi, oi v1.a4.Lo, oi v1.a4.Hi, oi v1.a5.Lo, oi v1.a5.Hi, oi v1.a6.Lo, oi v1.a6.Hi, oi v1.a7.Lo, oi v1.a7.Hi, oi v1.a8.Lo, oi v1.a8.Hi, oi v1.a9.Lo, oi v1.a9.Hi] 54]) (.nz (.mtE [1] ?_)) fun s x h hr2 Kn2 hKn2 => ?_
   · (cbv; repeat (refine ⟨an_, ?_⟩; cbv))
   unfold decide_within_l2 at h
   obtain ⟨v2, rfl⟩ : ∃ z, z = s := ⟨_, rfl⟩
   cbv
   refine brkG h (fun h => ?_) (fun h => ?_)
   · cbv
     refine .g h (fun ((Lo3, Hi4) : Int × Int) => rp 3 .top ++ [.ptr 0 0, oi v2, .ptr 1 0, .top, .agg [oi z.a0.Lo, oi z.a0.Hi, oi z.a1.Lo, oi z.a1.Hi, oi z.a2.Lo, oi z.a2.Hi, oi z.a3.Lo, oi z.a3.Hi, oi z.a4.Lo, oi z.a4.Hi, oi z.a5.Lo, oi z.a5.Hi, oi z.a6.Lo, oi z.a6.Hi, oi z.a7.Lo, oi z.a7.Hi, oi z.a8.Lo, oi z.a8.Hi, oi z.a9.Lo, oi z.a9.Hi], oi v2] ++ rp 27 .top) (fun ((Lo3, Hi4) : Int × Int) => [.cells [oi v1.a0.Lo, oi v1.a0.Hi, oi v1.a1.Lo, oi v1.a1.Hi, oi v1.a2.Lo, oi v1.a2.Hi, oi v1.a3.Lo, oi v1.a3.Hi, oi v1.a4.Lo, oi v1.a4.Hi, oi v1.a5.Lo, oi v1.a5.Hi, oi v1.a6.Lo, oi v1.a6.Hi, oi v1.a7.Lo, oi v1.a7.Hi, oi v1.a8.Lo, oi v1.a8.Hi, oi v1.a9.Lo, oi v1.a9.Hi] 54, .cells [oi Lo3, oi Hi4] 52]) (fun y hm Kn3 hKn3 => ?_) fun t h => ?_
     · have h := hm
       clear hm
       cbv
       refine .c10 h ?_ ?_ ?_ ?_ ?_ ?_ ?_ ?_ ?_ ?_ <;> (
         intro hni5 h
         cbv
         obtain rfl := oj h
         refine hKn3 _ _ _ rfl (.nz (.mtE [0, 1] ?_))
         (cbv; repeat (refine ⟨an_, ?_⟩; cbv))
         )
     obtain ⟨Lo3, Hi4⟩ := t
     cbv
     refine .g h (fun (v6 : Bool) => rp 3 .top ++ [.ptr 0 0] ++ rp 3 .top ++ [.agg [oi z.a0.Lo, oi z.a0.Hi, oi z.a1.Lo, oi z.a1.Hi, oi z.a2.Lo, oi z.a2.Hi, oi z.a3.Lo, oi z.a3.Hi, oi z.a4.Lo, oi z.a4.Hi, oi z.a5.Lo, oi z.a5.Hi, oi z.a6.Lo, oi z.a6.Hi, oi z.a7.Lo, oi z.a7.Hi, oi z.a8.Lo, oi z.a8.Hi, oi z.a9.Lo, oi z.a9.Hi], oi v2] ++ rp 25 .top ++ [ob v6, .top]) (fun (v6 : Bool) => [.cells [oi v1.a0.Lo, oi v1.a0.Hi, oi v1.a1.Lo, oi v1.a1.Hi, oi v1.a2.Lo, oi v1.a2.Hi, oi v1.a3.Lo, oi v1.a3.Hi, oi v1.a4.Lo, oi v1.a4.Hi, oi v1.a5.Lo, oi v1.a5.Hi, oi v1.a6.Lo, oi v1.a6.Hi, oi v1.a7.Lo, oi v1.a7.Hi, oi v1.a8.Lo, oi v1.a8.Hi, oi v1.a9.Lo, oi v1.a9.Hi] 54]) (fun y hm Kn3 hKn3 => ?_) fun t h => ?_
     · have h := hm
       clear hm
       cbv
       refine brkG h (fun h => ?_) (fun h => ?_)
       · cbv
         obtain rfl := oj h
         refine hKn3 _ _ _ rfl (.nz (.mtE [0] ?_))
         (cbv; repeat (refine ⟨an_, ?_⟩; cbv))
       · cbv
         refine .c10 h ?_ ?_ ?_ ?_ ?_ ?_ ?_ ?_ ?_ ?_ <;> (
           intro hni7 h
           cbv
           refine brkG h (fun h => ?_) (fun h => ?_)
           · cbv
             obtain rfl := oj h
             refine hKn3 _ _ _ rfl (.nz (.mtE [0] ?_))
             (cbv; repeat (refine ⟨an_, ?_⟩; cbv))
           · cbv
             refine .at _ hni7 (by decide) ?_
             cbv
             obtain rfl := oj h
             refine hKn3 _ _ _ rfl (.nz (.mtE [0] ?_))
             (cbv; repeat (refine ⟨an_, ?_⟩; cbv))
           )
     obtain ⟨v6, rfl⟩ : ∃ z, z = t := ⟨_, rfl⟩
     cbv
     refine brkG h (fun h => ?_) (fun h => ?_)
     · cbv
       obtain rfl := oj h
       obtain rfl := hr2 _ rfl
       obtain rfl := hr1 _ rfl
       exact hK _ _ (by first | rfl | exact W_nil _ | (cbv; simp only [W_nilx]))
     · cbv
       obtain rfl := oj h
       refine hKn2 _ _ _ rfl (.nz (.mtE [0] ?_))
       (cbv; repeat (refine ⟨an_, ?_⟩; cbv))
   · cbv
     obtain rfl := oj h
     obtain rfl := hr2 _ rfl
     refine hKn1 _ _ _ rfl (.nz (.mtE [] ?_))
     (cbv; repeat (refine ⟨an_, ?_⟩; cbv))
 cbv
 obtain rfl := oj h
 exact hK _ _ (by first | rfl | exact W_nil _ | (cbv; simp only [W_nilx]))
end Go.SX.Cl
