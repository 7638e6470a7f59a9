/- Parts of the proof. -/
import Derived.Test.YtllbabjgpdmblaaZClT
set_option linter.unusedSimpArgs false
set_option linter.unusedVariables false
namespace Go.SX.Cl
open Go Go.SX Go.Proofs
set_option maxRecDepth 100000
def c24r0 : List GOp := [
 gv 2 (.box 24 (.tmp 0)),
 gv 4 (.mv (.const (.bool false)))]
def c24r1 : List GOp := [
 gv 6 (.fadd 0 (.tmp 2)),
 gv 7 (.load 1 false (.tmp 6)),
 gv 8 (.len false (.tmp 7)),
 gv 9 (.mv (.tmp 1)),
 gv 10 (.bin .gtr (.tmp 8) (.tmp 9))]
def c24r2 : List GOp := [
 gv 4 (.mv (.const (.bool false)))]
def c24r3 : List GOp := [
 gv 5 (.mv (.const (.int .i64 0)))]
def c24r4 : List GOp := [
 gv 11 (.mv (.tmp 5)),
 gv 12 (.fadd 0 (.tmp 2)),
 gv 13 (.load 1 false (.tmp 12)),
 gv 14 (.len false (.tmp 13)),
 gv 15 (.bin .lss (.tmp 11) (.tmp 14))]
def c24r5 : List GOp := [
 gv 18 (.fadd 0 (.tmp 2)),
 gv 19 (.load 1 false (.tmp 18)),
 gv 20 (.mv (.tmp 5)),
 gv 21 (.idxA 8 (.tmp 19) (.tmp 20)),
 gv 22 (.fadd 2 (.tmp 21)),
 gv 23 (.load 1 false (.tmp 22)),
 gv 24 (.len false (.tmp 23)),
 gv 25 (.bin .gtr (.tmp 24) (.const (.int .i64 30))),
 gv 26 (.mv (.tmp 25)),
 gw 27 26 false (.fadd 0 (.tmp 2)),
 gw 28 26 false (.load 1 false (.tmp 27)),
 gw 29 26 false (.mv (.tmp 5)),
 gw 30 26 false (.idxA 8 (.tmp 28) (.tmp 29)),
 gw 31 26 false (.fadd 1 (.tmp 30)),
 gw 32 26 false (.load 1 false (.tmp 31)),
 gw 33 26 false (.len true (.tmp 32)),
 gw 34 26 false (.bin .gtr (.tmp 33) (.const (.int .i64 200))),
 gv 35 (.pick (.tmp 26) (.const (.bool true)) (.tmp 34))]
def c24r6 : List GOp := [
 gv 4 (.mv (.const (.bool false)))]
def c24r7 : List GOp := [
 gv 16 (.mv (.tmp 5)),
 gv 17 (.bin .add (.tmp 16) (.const (.int .i64 1))),
 gv 5 (.mv (.tmp 17))]
def c24l8 : DE := .seq (.seq (.reg c24r4) (.cond (.tmp 15) (.skip) (.exit 0))) (.seq (.block 1 (.join (.reg c24r5) (.cond (.tmp 35) (.seq (.reg c24r6) (.ret)) (.skip)))) (.reg c24r7))
def c24r9 : List GOp := [
 gv 4 (.mv (.const (.bool true)))]
def c24 : EFn := ⟨36, .seq (.reg c24r0) (.seq (.seq (.reg c24r1) (.cond (.tmp 10) (.seq (.reg c24r2) (.ret)) (.skip))) (.join (.seq (.reg c24r3) (.block 0 (.loop c24l8))) (.seq (.reg c24r9) (.ret)))), [.tmp 4]⟩
theorem c24_ok : compF Try.prog 24 = some c24.er := by kernel_rfl
noncomputable def ref13_Few_l2 (p : Policy) : Int → Option ((Int) ⊕ ((Unit) ⊕ (Bool)))
 | i1 =>
 bif (io.lt i1 (io.len (W eRule p.Rules))) then (
 Option.bind (
 Option.bind (idxG p.Rules i1) fun x3 =>
 bif (io.lt 30 (io.len (W eA10Range x3.Zones))) then (
 some true
 ) else (
 Option.bind (idxG p.Rules i1) fun x4 =>
 some (io.lt 200 (io.ssz x4.Name))
 )
 ) fun v2 =>
 bif v2 then (
 some (.inr (.inr false))
 ) else (
 some (.inl (io.ar .add .i64 i1 1))
 )
 ) else (
 some (.inr (.inl ()))
 )
noncomputable def ref13_Few_g (p : Policy) (n : Int) : Option (Bool) :=
 bif (io.lt n (io.len (W eRule p.Rules))) then (
 some false
 ) else (
 orR (
 whileG (ref13_Few_l2 p) 0
 ) fun _ =>
 some true
 )
set_option maxHeartbeats 4000000 in
theorem ref13_Few_R {P : Program} (hP : P = Try.prog) (p : Policy) (n : Int) (r : Bool) (h : ref13_Few_g p n = some r) : Fn1 P 24 [vPolicy p, vIi64 n] (vB r) := by
 refine .walkE (hP ▸ c24_ok) fun K hK => ?_
 unfold ref13_Few_g at h
 cbv
 refine brkG h ?_ ?_ <;> intro h
 · cbv
   obtain rfl := oj h
   exact hK _ _ aw_
 · cbv
   refine .ga h (fun (_ : Unit) => rp 36 .top) (fun (_ : Unit) => []) (fun y hm hr1 Kn1 hKn1 => ?_) fun t h => ?_
   · have h := hm
     clear hm
     cbv
     refine .g h (fun (i1 : Int) => [.top, .top, .ptr 0 0, .top, .top, oi i1] ++ rp 30 .top) (fun (i1 : Int) => [.cells [.d (.sl (W eRule p.Rules))] 24]) (.nz (.mtE [0] ?_)) fun s x h hr2 Kn2 hKn2 => ?_
     · (cbv; repeat (refine ⟨an_, ?_⟩; cbv))
     unfold ref13_Few_l2 at h
     obtain ⟨i1, rfl⟩ : ∃ z, z = s := ⟨_, rfl⟩
     cbv
     refine brkG h ?_ ?_ <;> intro h
     · cbv
       refine .g h (fun (v2 : Bool) => [.top, .top, .ptr 0 0, .top, .top, oi i1] ++ rp 29 .top ++ [ob v2]) (fun (v2 : Bool) => [.cells [.d (.sl (W eRule p.Rules))] 24]) (fun y hm Kn3 hKn3 => ?_) fun t h => ?_
       · have h := hm
         clear hm
         cbv
         refine .g h (fun _ => rfl) fun x3 h => ?_
         cbv
         refine brkG h ?_ ?_ <;> intro h
         · cbv
           obtain rfl := oj h
           refine hKn3 _ _ _ rfl (.nz (.mtE [0] ?_))
           (cbv; repeat (refine ⟨an_, ?_⟩; cbv))
         · cbv
           refine .g h (fun _ => rfl) fun x4 h => ?_
           cbv
           obtain rfl := oj h
           refine hKn3 _ _ _ rfl (.nz (.mtE [0] ?_))
           (cbv; repeat (refine ⟨an_, ?_⟩; cbv))
       obtain ⟨v2, rfl⟩ : ∃ z, z = t := ⟨_, rfl⟩
       cbv
       refine brkG h ?_ ?_ <;> intro h
       · cbv
         obtain rfl := oj h
         obtain rfl := hr2 _ rfl
         obtain rfl := hr1 _ rfl
         exact hK _ _ aw_
       · cbv
         obtain rfl := oj h
         refine hKn2 _ _ _ rfl (.nz (.mtE [0] ?_))
         (cbv; repeat (refine ⟨an_, ?_⟩; cbv))
     · cbv
       obtain rfl := oj h
       obtain rfl := hr2 _ rfl
       refine hKn1 _ _ _ rfl (.nz (.mtE [] ?_))
       (cbv; repeat (refine ⟨an_, ?_⟩; cbv))
   cbv
   obtain rfl := oj h
   exact hK _ _ aw_
end Go.SX.Cl
namespace Go.SX.Cl
open Go Go.SX Go.Proofs
set_option maxRecDepth 100000
def c57r0 : List GOp := [
 gv 0 (.alloc 54 (.agg #[oz, oz, oz, oz, oz, oz, oz, oz, oz, oz, oz, oz, oz, oz, oz, oz, oz, oz, oz, oz]))]
def c57r1 : List GOp := [
 gv 1 (.alloc 54 (.agg #[oz, oz, oz, oz, oz, oz, oz, oz, oz, oz, oz, oz, oz, oz, oz, oz, oz, oz, oz, oz]))]
def c57r2 : List GOp := [
 gv 4 (.bslice 3 1 10 oz [(0, (.const (.int .i64 1000000000))), (1, (.const (.int .i64 150))), (2, (.const (.int .i64 1))), (3, (.const (.int .i64 19))), (4, (.const (.int .i64 7))), (5, (.const (.int .i64 319))), (6, (.const (.int .i64 3))), (7, (.const (.int .i64 3))), (8, (.const (.int .i64 12))), (9, (.const (.int .i64 100)))]),
 gv 2 (.mv (.tmp 4))]
def c57r3 : List GOp := [
 gv 3 (.mv (.const (.int .i64 0)))]
def c57r4 : List GOp := [
 gv 5 (.mv (.tmp 3)),
 gv 6 (.mv (.tmp 2)),
 gv 7 (.len false (.tmp 6)),
 gv 8 (.bin .lss (.tmp 5) (.tmp 7))]
def c57r5 : List GOp := [
 gv 11 (.mv (.tmp 3)),
 gv 12 (.mv (.tmp 2)),
 gv 13 (.mv (.tmp 3)),
 gv 14 (.idxA 1 (.tmp 12) (.tmp 13)),
 gv 15 (.load 1 false (.tmp 14)),
 gv 16 (.idxP 10 2 (.tmp 1) (.tmp 11)),
 gv 17 (.fadd 1 (.tmp 16)),
 ⟨none, .store 1 (.tmp 17) (.tmp 15), none⟩]
def c57r6 : List GOp := [
 gv 9 (.mv (.tmp 3)),
 gv 10 (.bin .add (.tmp 9) (.const (.int .i64 1))),
 gv 3 (.mv (.tmp 10))]
def c57l7 : DE := .seq (.seq (.reg c57r4) (.cond (.tmp 8) (.skip) (.exit 0))) (.join (.block 1 (.reg c57r5)) (.reg c57r6))
def c57r8 : List GOp := [
 gv 18 (.idxP 10 2 (.tmp 1) (.const (.int .i64 8))),
 gv 19 (.fadd 0 (.tmp 18)),
 ⟨none, .store 1 (.tmp 19) (.const (.int .i64 1)), none⟩]
def c57r9 : List GOp := [
 gv 20 (.load 20 true (.tmp 1)),
 ⟨none, .store 20 (.tmp 0) (.tmp 20), none⟩]
def c57 : EFn := ⟨21, .seq (.reg c57r0) (.seq (.reg c57r1) (.seq (.reg c57r2) (.join (.seq (.reg c57r3) (.block 0 (.loop c57l7))) (.seq (.reg c57r8) (.seq (.reg c57r9) (.ret)))))), [.cell 0 20 true]⟩
theorem c57_ok : compF Try.prog 57 = some c57.er := by kernel_rfl
noncomputable def ref12_Limits_l2 (high1 : (List Int)) : ((A10 Range) × Int) → Option (((A10 Range) × Int) ⊕ ((A10 Range)))
 | (z3, i4) =>
 bif (io.lt i4 (io.len (W eIi64 high1))) then (
 Option.bind (
 Option.bind (rixG high1 i4) fun i6 =>
 Option.bind (high1[i6]?) fun v7 =>
 Option.bind (pixG 10 i4) fun ix8 =>
 some (z3.put ix8 (Range.mk (z3.get ix8).Lo v7))
 ) fun z5 =>
 some (.inl (z5, (io.ar .add .i64 i4 1)))
 ) else (
 some (.inr z3)
 )
noncomputable def ref12_Limits_g : Option ((A10 Range)) :=
 Option.bind (some [1000000000, 150, 1, 19, 7, 319, 3, 3, 12, 100]) fun high1 =>
 Option.bind (
 whileG (ref12_Limits_l2 high1) ((A10.mk (Range.mk 0 0) (Range.mk 0 0) (Range.mk 0 0) (Range.mk 0 0) (Range.mk 0 0) (Range.mk 0 0) (Range.mk 0 0) (Range.mk 0 0) (Range.mk 0 0) (Range.mk 0 0)), 0)
 ) fun z2 =>
 some (A10.mk z2.a0 z2.a1 z2.a2 z2.a3 z2.a4 z2.a5 z2.a6 z2.a7 (Range.mk 1 z2.a8.Hi) z2.a9)
set_option maxHeartbeats 4000000 in
theorem ref12_Limits_R {P : Program} (hP : P = Try.prog) (r : (A10 Range)) (h : ref12_Limits_g = some r) : Fn1 P 57 [] (vA10Range r) := by
 refine .walkE (hP ▸ c57_ok) fun K hK => ?_
 unfold ref12_Limits_g at h
 cbv
 refine .g (e := eIi64) h (W_cons aw_ (W_cons aw_ (W_cons aw_ (W_cons aw_ (W_cons aw_ (W_cons aw_ (W_cons aw_ (W_cons aw_ (W_cons aw_ (W_cons aw_ (W_nil' _))))))))))) fun high1 h => ?_
 cbv
 refine .g h (fun (z2 : (A10 Range)) => [.ptr 0 0, .ptr 1 0] ++ rp 19 .top) (fun (z2 : (A10 Range)) => [.cells [oi 0, oi 0, oi 0, oi 0, oi 0, oi 0, oi 0, oi 0, oi 0, oi 0, oi 0, oi 0, oi 0, oi 0, oi 0, oi 0, oi 0, oi 0, oi 0, oi 0] 54, .cells [oi z2.a0.Lo, oi z2.a0.Hi, oi z2.a1.Lo, oi z2.a1.Hi, oi z2.a2.Lo, oi z2.a2.Hi, oi z2.a3.Lo, oi z2.a3.Hi, oi z2.a4.Lo, oi z2.a4.Hi, oi z2.a5.Lo, oi z2.a5.Hi, oi z2.a6.Lo, oi z2.a6.Hi, oi z2.a7.Lo, oi z2.a7.Hi, oi z2.a8.Lo, oi z2.a8.Hi, oi z2.a9.Lo, oi z2.a9.Hi] 54]) (fun y hm Kn1 hKn1 => ?_) fun t h => ?_
 · have h := hm
   clear hm
   cbv
   refine .g h (fun ((z3, i4) : (A10 Range) × Int) => [.ptr 0 0, .ptr 1 0, .hd 2, oi i4] ++ rp 17 .top) (fun ((z3, i4) : (A10 Range) × Int) => [.cells [oi 0, oi 0, oi 0, oi 0, oi 0, oi 0, oi 0, oi 0, oi 0, oi 0, oi 0, oi 0, oi 0, oi 0, oi 0, oi 0, oi 0, oi 0, oi 0, oi 0] 54, .cells [oi z3.a0.Lo, oi z3.a0.Hi, oi z3.a1.Lo, oi z3.a1.Hi, oi z3.a2.Lo, oi z3.a2.Hi, oi z3.a3.Lo, oi z3.a3.Hi, oi z3.a4.Lo, oi z3.a4.Hi, oi z3.a5.Lo, oi z3.a5.Hi, oi z3.a6.Lo, oi z3.a6.Hi, oi z3.a7.Lo, oi z3.a7.Hi, oi z3.a8.Lo, oi z3.a8.Hi, oi z3.a9.Lo, oi z3.a9.Hi] 54, .row 3 1 (W eIi64 high1)]) (.nz (.mtE [0, 1, 2] ?_)) fun s x h hr2 Kn2 hKn2 => ?_
   · (cbv; repeat (refine ⟨an_, ?_⟩; cbv))
   unfold ref12_Limits_l2 at h
   obtain ⟨z3, i4⟩ := s
   cbv
   refine brkG h ?_ ?_ <;> intro h
   · cbv
     refine .g h (fun (z5 : (A10 Range)) => [.ptr 0 0, .ptr 1 0, .hd 2, oi i4] ++ rp 17 .top) (fun (z5 : (A10 Range)) => [.cells [oi 0, oi 0, oi 0, oi 0, oi 0, oi 0, oi 0, oi 0, oi 0, oi 0, oi 0, oi 0, oi 0, oi 0, oi 0, oi 0, oi 0, oi 0, oi 0, oi 0] 54, .cells [oi z5.a0.Lo, oi z5.a0.Hi, oi z5.a1.Lo, oi z5.a1.Hi, oi z5.a2.Lo, oi z5.a2.Hi, oi z5.a3.Lo, oi z5.a3.Hi, oi z5.a4.Lo, oi z5.a4.Hi, oi z5.a5.Lo, oi z5.a5.Hi, oi z5.a6.Lo, oi z5.a6.Hi, oi z5.a7.Lo, oi z5.a7.Hi, oi z5.a8.Lo, oi z5.a8.Hi, oi z5.a9.Lo, oi z5.a9.Hi] 54, .row 3 1 (W eIi64 high1)]) (fun y hm Kn3 hKn3 => ?_) fun t h => ?_
     · have h := hm
       clear hm
       cbv
       refine .g h fun i6 h => ?_
       cbv
       refine .g h fun v7 h => ?_
       cbv
       refine .c10 h ?_ ?_ ?_ ?_ ?_ ?_ ?_ ?_ ?_ ?_ <;> (
         intro hnix8 h
         cbv
         obtain rfl := oj h
         refine hKn3 _ _ _ rfl (.nz (.mtE [0, 1, 2] ?_))
         (cbv; repeat (refine ⟨an_, ?_⟩; cbv))
         )
     obtain ⟨z5, rfl⟩ : ∃ z, z = t := ⟨_, rfl⟩
     cbv
     obtain rfl := oj h
     refine hKn2 _ _ _ rfl (.nz (.mtE [0, 1, 2] ?_))
     (cbv; repeat (refine ⟨an_, ?_⟩; cbv))
   · cbv
     obtain rfl := oj h
     obtain rfl := hr2 _ rfl
     refine hKn1 _ _ _ rfl (.nz (.mtE [0, 1] ?_))
     (cbv; repeat (refine ⟨an_, ?_⟩; cbv))
 obtain ⟨z2, rfl⟩ : ∃ z, z = t := ⟨_, rfl⟩
 cbv
 refine .lit 8 rfl (by decide) ?_
 cbv
 obtain rfl := oj h
 exact hK _ _ aw_
end Go.SX.Cl
