/- Parts of the proof. -/
import Derived.Test.YtllbabjgpdmblaaYClT
import Derived.Test.YtllbabjgpdmblaaYCl15
namespace Go.SX.Cl
open Go Go.SX Go.Proofs
set_option maxRecDepth 100000
def c16r0 : List GOp := [
 gv 2 (.box 32 (.tmp 0)),
 gv 3 (.box 32 (.tmp 1)),
 gv 4 (.mv (.const (.bool false)))]
def c16r1 : List GOp := [
 gv 5 (.mv (.const (.int .i64 0)))]
def c16r2 : List GOp := [
 gv 6 (.mv (.tmp 5)),
 gv 7 (.bin .lss (.tmp 6) (.const (.int .i64 10)))]
def c16r3 : List GOp := [
 gv 10 (.mv (.tmp 5)),
 gv 11 (.idxP 10 1 (.tmp 2) (.tmp 10)),
 gv 12 (.load 1 false (.tmp 11)),
 gv 13 (.mv (.tmp 5)),
 gv 14 (.idxP 10 1 (.tmp 3) (.tmp 13)),
 gv 15 (.load 1 false (.tmp 14)),
 gv 16 (.bin .neq (.tmp 12) (.tmp 15))]
def c16r4 : List GOp := [
 gv 17 (.mv (.tmp 5)),
 gv 18 (.idxP 10 1 (.tmp 2) (.tmp 17)),
 gv 19 (.load 1 false (.tmp 18)),
 gv 20 (.mv (.tmp 5)),
 gv 21 (.idxP 10 1 (.tmp 3) (.tmp 20)),
 gv 22 (.load 1 false (.tmp 21)),
 gv 23 (.bin .lss (.tmp 19) (.tmp 22)),
 gv 4 (.mv (.tmp 23))]
def c16r5 : List GOp := [
 gv 8 (.mv (.tmp 5)),
 gv 9 (.bin .add (.tmp 8) (.const (.int .i64 1))),
 gv 5 (.mv (.tmp 9))]
def c16l6 : DE := .seq (.seq (.reg c16r2) (.cond (.tmp 7) (.skip) (.exit 0))) (.seq (.block 1 (.join (.par true true true 6 c16r3) (.cond (.tmp 16) (.seq (.par true true true 6 c16r4) (.ret)) (.skip)))) (.reg c16r5))
def c16r7 : List GOp := [
 gv 4 (.mv (.const (.bool false)))]
def c16 : EFn := ⟨24, .seq (.reg c16r0) (.join (.seq (.reg c16r1) (.block 0 (.loop c16l6))) (.seq (.reg c16r7) (.ret))), [.tmp 4]⟩
theorem c16_ok : compF Try.prog 16 = some c16.er := by kernel_rfl
noncomputable def law16_least_l2 (f : (A10 Int)) (g : (A10 Int)) : Int → Option ((Int) ⊕ ((Unit) ⊕ (Bool)))
 | i1 =>
 bif (io.lt i1 10) then (
 Option.bind (
 Option.bind (pixG 10 i1) fun i3 =>
 some (io.not (io.eq (f.get i3) (g.get i3)))
 ) fun v2 =>
 bif v2 then (
 Option.bind (pixG 10 i1) fun i4 =>
 some (.inr (.inr (io.lt (f.get i4) (g.get i4))))
 ) else (
 some (.inl (io.ar .add .i64 i1 1))
 )
 ) else (
 some (.inr (.inl ()))
 )
noncomputable def law16_least_g (f : (A10 Int)) (g : (A10 Int)) : Option (Bool) :=
 orR (
 whileG (law16_least_l2 f g) 0
 ) fun _ =>
 some false
set_option maxHeartbeats 4000000 in
theorem law16_least_R {P : Program} (hP : P = Try.prog) (f : (A10 Int)) (g : (A10 Int)) (r : Bool) (h : law16_least_g f g = some r) : Fn1 P 16 [vA10Ii64 f, vA10Ii64 g] (vB r) := by
 refine .walkE (hP ▸ c16_ok) fun K hK => ?_
 unfold law16_least_g at h
 cbv
 refine .ga h (fun (_ : Unit) => rp 24 .top) (fun (_ : Unit) => []) (fun y hm hr1 Kn1 hKn1 => ?_) fun t h => ?_
 · have h := hm
   clear hm
   cbv
   refine .g h (fun (i1 : Int) => [.top, .top, .ptr 0 0, .ptr 1 0, .top, oi i1] ++ rp 18 .top) (fun (i1 : Int) => [.cells [oi f.a0, oi f.a1, oi f.a2, oi f.a3, oi f.a4, oi f.a5, oi f.a6, oi f.a7, oi f.a8, oi f.a9] 32, .cells [oi g.a0, oi g.a1, oi g.a2, oi g.a3, oi g.a4, oi g.a5, oi g.a6, oi g.a7, oi g.a8, oi g.a9] 32]) (.nz (.mtE [0, 1] ?_)) fun s x h hr2 Kn2 hKn2 => ?_
   · (cbv; repeat (refine ⟨an_, ?_⟩; cbv))
   unfold law16_least_l2 at h
   obtain ⟨i1, rfl⟩ : ∃ z, z = s := ⟨_, rfl⟩
   cbv
   refine brkG h (fun h => ?_) (fun h => ?_)
   · cbv
     refine .g h (fun (v2 : Bool) => [.top, .top, .ptr 0 0, .ptr 1 0, .top, oi i1] ++ rp 10 .top ++ [ob v2] ++ rp 7 .top) (fun (v2 : Bool) => [.cells [oi f.a0, oi f.a1, oi f.a2, oi f.a3, oi f.a4, oi f.a5, oi f.a6, oi f.a7, oi f.a8, oi f.a9] 32, .cells [oi g.a0, oi g.a1, oi g.a2, oi g.a3, oi g.a4, oi g.a5, oi g.a6, oi g.a7, oi g.a8, oi g.a9] 32]) (fun y hm Kn3 hKn3 => ?_) fun t h => ?_
     · have h := hm
       clear hm
       cbv
       refine .c10 h ?_ ?_ ?_ ?_ ?_ ?_ ?_ ?_ ?_ ?_ <;> (
         intro hni3 h
         cbv
         refine .at _ hni3 (by decide) ?_
         cbv
         obtain rfl := oj h
         refine hKn3 _ _ _ rfl (.nz (.mtE [0, 1] ?_))
         (cbv; repeat (refine ⟨an_, ?_⟩; cbv))
         )
     obtain ⟨v2, rfl⟩ : ∃ z, z = t := ⟨_, rfl⟩
     cbv
     refine brkG h (fun h => ?_) (fun h => ?_)
     · cbv
       refine .c10 h ?_ ?_ ?_ ?_ ?_ ?_ ?_ ?_ ?_ ?_ <;> (
         intro hni4 h
         cbv
         refine .at _ hni4 (by decide) ?_
         cbv
         obtain rfl := oj h
         obtain rfl := hr2 _ rfl
         obtain rfl := hr1 _ rfl
         exact hK _ _ (by first | rfl | exact W_nil _ | (cbv; simp only [W_nilx]))
         )
     · cbv
       obtain rfl := oj h
       refine hKn2 _ _ _ rfl (.nz (.mtE [0, 1] ?_))
       (cbv; repeat (refine ⟨an_, ?_⟩; cbv))
   · cbv
     obtain rfl := oj h
     obtain rfl := hr2 _ rfl
     refine hKn1 _ _ _ rfl (.nz (.mtE [] ?_))
     (cbv; repeat (refine ⟨an_, ?_⟩; cbv))
 cbv
 obtain rfl := oj h
 exact hK _ _ (by first | rfl | exact W_nil _ | (cbv; simp only [W_nilx]))
end Go.SX.Cl
namespace Go.SX.Cl
open Go Go.SX Go.Proofs
set_option maxRecDepth 100000
def c17r0 : List GOp := [
 gv 2 (.box 45 (.tmp 0)),
 gv 3 (.box 45 (.tmp 1)),
 gv 4 (.mv (.const (.bool false)))]
def c17r1 : List GOp := [
 gv 5 (.fadd 15 (.tmp 3)),
 gv 6 (.load 1 false (.tmp 5)),
 gv 7 (.fadd 15 (.tmp 2)),
 ⟨none, .store 1 (.tmp 7) (.tmp 6), none⟩]
def c17r2 : List GOp := [
 gv 8 (.load 16 true (.tmp 2)),
 gv 9 (.load 16 true (.tmp 3)),
 gv 10 (.beq false [.bool, .bool, .bool, .int, .int, .int, .int, .int, .int, .int, .int, .int, .int, .int, .int, .int] (.tmp 8) (.tmp 9)),
 gv 4 (.mv (.tmp 10))]
def c17 : EFn := ⟨11, .seq (.reg c17r0) (.seq (.reg c17r1) (.seq (.reg c17r2) (.ret))), [.tmp 4]⟩
theorem c17_ok : compF Try.prog 17 = some c17.er := by kernel_rfl
noncomputable def ref13_Like_g (a : Decision) (b : Decision) : Option (Bool) :=
 some (qDecision (Decision.mk a.Allowed a.Together a.Single a.Limit a.Price a.Fee a.Tax a.Cap a.Share a.Refund b.By) b)
set_option maxHeartbeats 4000000 in
theorem ref13_Like_R {P : Program} (hP : P = Try.prog) (a : Decision) (b : Decision) (r : Bool) (h : ref13_Like_g a b = some r) : Fn1 P 17 [vDecision a, vDecision b] (vB r) := by
 refine .walkE (hP ▸ c17_ok) fun K hK => ?_
 unfold ref13_Like_g at h
 cbv
 obtain rfl := oj h
 exact hK _ _ (by first | rfl | exact W_nil _ | (cbv; simp only [W_nilx]))
end Go.SX.Cl
namespace Go.SX.Cl
open Go Go.SX Go.Proofs
set_option maxRecDepth 100000
def c19r0 : List GOp := [
 gv 2 (.box 24 (.tmp 0)),
 gv 4 (.alloc 24 (.agg #[(.slice none 0 0)]))]
def c19r1 : List GOp := [
 gv 5 (.bslice 41 8 0 (.agg #[oz, (.string ⟨#[]⟩), (.slice none 0 0), oz, oz, oz, oz, oz]) []),
 gv 6 (.fadd 0 (.tmp 2)),
 gv 7 (.load 1 false (.tmp 6)),
 gv 8 (.mv (.tmp 1)),
 gv 9 (.slc 8 (.tmp 7) none (some (.tmp 8))),
 gv 10 (.app 41 8 88 (.agg #[oz, (.string ⟨#[]⟩), (.slice none 0 0), oz, oz, oz, oz, oz]) (.tmp 5) (.tmp 9)),
 gv 11 (.fadd 0 (.tmp 2)),
 gv 12 (.load 1 false (.tmp 11)),
 gv 13 (.mv (.tmp 1)),
 gv 14 (.bin .add (.tmp 13) (.const (.int .i64 1))),
 gv 15 (.slc 8 (.tmp 12) (some (.tmp 14)) none),
 gv 16 (.app 41 8 88 (.agg #[oz, (.string ⟨#[]⟩), (.slice none 0 0), oz, oz, oz, oz, oz]) (.tmp 10) (.tmp 15)),
 gv 17 (.build (.agg #[(.slice none 0 0)]) [((0, 1), (.tmp 16))])]
def c19r1z : GOp := ⟨none, .store 1 (.tmp 4) (.tmp 17), none⟩
def c19 : EFn := ⟨18, .seq (.reg c19r0) (.seq (.hyl true true 11 c19r1 c19r1z) (.ret)), [.cell 4 1 true]⟩
theorem c19_ok : compF Try.prog 19 = some c19.er := by kernel_rfl
noncomputable def ref16_Without_g (p : Policy) (a : Int) : Option (Policy) :=
 Option.bind (some ([] : List Rule)) fun l1 =>
 Option.bind (subG p.Rules 0 a) fun l2 =>
 Option.bind (appG l1 l2) fun l3 =>
 Option.bind (subG p.Rules (io.ar .add .i64 a 1) (io.len (W eRule p.Rules))) fun l4 =>
 Option.bind (appG l3 l4) fun l5 =>
 some (Policy.mk l5)
set_option maxHeartbeats 4000000 in
theorem ref16_Without_R {P : Program} (hP : P = Try.prog) (p : Policy) (a : Int) (r : Policy) (h : ref16_Without_g p a = some r) : Fn1 P 19 [vPolicy p, vIi64 a] (vPolicy r) := by
 refine .walkE (hP ▸ c19_ok) fun K hK => ?_
 unfold ref16_Without_g at h
 cbv
 refine .g (e := eRule) h (W_nil' _) fun l1 h => ?_
 cbv
 refine .g h (fun _ => rfl) fun l2 h => ?_
 cbv
 refine .g h rfl (fun _ => rfl) (by decide) fun l3 h => ?_
 cbv
 refine .g h (fun _ => rfl) fun l4 h => ?_
 cbv
 refine .g h rfl (fun _ => rfl) (by decide) fun l5 h => ?_
 cbv
 obtain rfl := oj h
 exact hK _ _ (by first | rfl | exact W_nil _ | (cbv; simp only [W_nilx]))
end Go.SX.Cl
namespace Go.SX.Cl
open Go Go.SX Go.Proofs
set_option maxRecDepth 100000
def c21r0 : List GOp := [
 gv 8 (.mv (.const (.bool false)))]
def c21r1 : List GOp := [
 gv 9 (.mv (.const (.int .i64 0)))]
def c21r2 : List GOp := [
 gv 10 (.mv (.tmp 9)),
 gv 11 (.mv (.tmp 0)),
 gv 12 (.len false (.tmp 11)),
 gv 13 (.bin .lss (.tmp 10) (.tmp 12))]
def c21r3 : List GOp := [
 gv 16 (.mv (.tmp 0)),
 gv 17 (.mv (.tmp 9)),
 gv 18 (.idxA 13 (.tmp 16) (.tmp 17)),
 gv 19 (.fadd 0 (.tmp 18)),
 gv 20 (.load 1 false (.tmp 19)),
 gv 21 (.mv (.tmp 1)),
 gv 22 (.bin .eql (.tmp 20) (.tmp 21)),
 gv 23 (.mv (.tmp 22)),
 gw 24 23 true (.mv (.tmp 0)),
 gw 25 23 true (.mv (.tmp 9)),
 gw 26 23 true (.idxA 13 (.tmp 24) (.tmp 25)),
 gw 27 23 true (.fadd 1 (.tmp 26)),
 gw 28 23 true (.load 1 false (.tmp 27)),
 gw 29 23 true (.mv (.tmp 2)),
 gw 30 23 true (.bin .eql (.tmp 28) (.tmp 29)),
 gv 31 (.pick (.tmp 23) (.tmp 30) (.const (.bool false))),
 gv 32 (.mv (.tmp 31)),
 gw 33 32 true (.mv (.tmp 0)),
 gw 34 32 true (.mv (.tmp 9)),
 gw 35 32 true (.idxA 13 (.tmp 33) (.tmp 34)),
 gw 36 32 true (.fadd 2 (.tmp 35)),
 gw 37 32 true (.load 1 false (.tmp 36)),
 gw 38 32 true (.mv (.tmp 3)),
 gw 39 32 true (.bin .eql (.tmp 37) (.tmp 38)),
 gv 40 (.pick (.tmp 32) (.tmp 39) (.const (.bool false)))]
def c21r4 : List GOp := [
 gv 8 (.mv (.const (.bool true)))]
def c21r5 : List GOp := [
 gv 14 (.mv (.tmp 9)),
 gv 15 (.bin .add (.tmp 14) (.const (.int .i64 1))),
 gv 9 (.mv (.tmp 15))]
def c21l6 : DE := .seq (.seq (.reg c21r2) (.cond (.tmp 13) (.skip) (.exit 0))) (.seq (.block 1 (.join (.reg c21r3) (.cond (.tmp 40) (.seq (.reg c21r4) (.ret)) (.skip)))) (.reg c21r5))
def c21r7 : List GOp := [
 gv 8 (.mv (.const (.bool false)))]
def c21 : EFn := ⟨41, .seq (.reg c21r0) (.join (.seq (.reg c21r1) (.block 0 (.loop c21l6))) (.seq (.reg c21r7) (.ret))), [.tmp 8]⟩
theorem c21_ok : compF Try.prog 21 = some c21.er := by kernel_rfl
noncomputable def law16_about_l2 (l : (List Finding)) (kind : Int) (a : Int) (b : Int) : Int → Option ((Int) ⊕ ((Unit) ⊕ (Bool)))
 | i1 =>
 bif (io.lt i1 (io.len (W eFinding l))) then (
 Option.bind (
 Option.bind (idxG l i1) fun x3 =>
 bif (io.eq x3.Kind kind) then (
 Option.bind (idxG l i1) fun x4 =>
 bif (io.eq x4.A a) then (
 Option.bind (idxG l i1) fun x5 =>
 some (io.eq x5.B b)
 ) else (
 some false
 )
 ) else (
 some false
 )
 ) fun v2 =>
 bif v2 then (
 some (.inr (.inr true))
 ) else (
 some (.inl (io.ar .add .i64 i1 1))
 )
 ) else (
 some (.inr (.inl ()))
 )
noncomputable def law16_about_g (l : (List Finding)) (kind : Int) (a : Int) (b : Int) : Option (Bool) :=
 orR (
 whileG (law16_about_l2 l kind a b) 0
 ) fun _ =>
 some false
set_option maxHeartbeats 4000000 in
theorem law16_about_R {P : Program} (hP : P = Try.prog) (l : (List Finding)) (kind : Int) (a : Int) (b : Int) (r : Bool) (h : law16_about_g l kind a b = some r) : Fn1 P 21 [vLFinding l, vIi64 kind, vIi64 a, vIi64 b] (vB r) := by
 refine .walkE (hP ▸ c21_ok) fun K hK => ?_
 unfold law16_about_g at h
 cbv
 refine .ga h (fun (_ : Unit) => rp 41 .top) (fun (_ : Unit) => []) (fun y hm hr1 Kn1 hKn1 => ?_) fun t h => ?_
 · have h := hm
   clear hm
   cbv
   refine .g h (fun (i1 : Int) => [.d (.sl (W eFinding l)), oi kind, oi a, oi b] ++ rp 5 .top ++ [oi i1] ++ rp 31 .top) (fun (i1 : Int) => []) (.nz (.mtE [] ?_)) fun s x h hr2 Kn2 hKn2 => ?_
   · (cbv; repeat (refine ⟨an_, ?_⟩; cbv))
   unfold law16_about_l2 at h
   obtain ⟨i1, rfl⟩ : ∃ z, z = s := ⟨_, rfl⟩
   cbv
   refine brkG h (fun h => ?_) (fun h => ?_)
   · cbv
     refine .g h (fun (v2 : Bool) => [.d (.sl (W eFinding l)), oi kind, oi a, oi b] ++ rp 5 .top ++ [oi i1] ++ rp 30 .top ++ [ob v2]) (fun (v2 : Bool) => []) (fun y hm Kn3 hKn3 => ?_) fun t h => ?_
     · have h := hm
       clear hm
       cbv
       refine .g h (fun _ => rfl) fun x3 h => ?_
       cbv
       refine brkG h (fun h => ?_) (fun h => ?_)
       · cbv
         refine .g h (fun _ => rfl) fun x4 h => ?_
         cbv
         refine brkG h (fun h => ?_) (fun h => ?_)
         · cbv
           refine .g h (fun _ => rfl) fun x5 h => ?_
           cbv
           obtain rfl := oj h
           refine hKn3 _ _ _ rfl (.nz (.mtE [] ?_))
           (cbv; repeat (refine ⟨an_, ?_⟩; cbv))
         · cbv
           obtain rfl := oj h
           refine hKn3 _ _ _ rfl (.nz (.mtE [] ?_))
           (cbv; repeat (refine ⟨an_, ?_⟩; cbv))
       · cbv
         obtain rfl := oj h
         refine hKn3 _ _ _ rfl (.nz (.mtE [] ?_))
         (cbv; repeat (refine ⟨an_, ?_⟩; cbv))
     obtain ⟨v2, rfl⟩ : ∃ z, z = t := ⟨_, rfl⟩
     cbv
     refine brkG h (fun h => ?_) (fun h => ?_)
     · cbv
       obtain rfl := oj h
       obtain rfl := hr2 _ rfl
       obtain rfl := hr1 _ rfl
       exact hK _ _ (by first | rfl | exact W_nil _ | (cbv; simp only [W_nilx]))
     · cbv
       obtain rfl := oj h
       refine hKn2 _ _ _ rfl (.nz (.mtE [] ?_))
       (cbv; repeat (refine ⟨an_, ?_⟩; cbv))
   · cbv
     obtain rfl := oj h
     obtain rfl := hr2 _ rfl
     refine hKn1 _ _ _ rfl (.nz (.mtE [] ?_))
     (cbv; repeat (refine ⟨an_, ?_⟩; cbv))
 cbv
 obtain rfl := oj h
 exact hK _ _ (by first | rfl | exact W_nil _ | (cbv; simp only [W_nilx]))
end Go.SX.Cl
namespace Go.SX.Cl
open Go Go.SX Go.Proofs
set_option maxRecDepth 100000
def c11r0 : List GOp := [
 gv 4 (.mv (.const (.bool false)))]
def c11r1 : List GOp := [
 gv 6 (.mv (.tmp 0)),
 gv 7 (.len false (.tmp 6)),
 gv 8 (.mv (.tmp 1)),
 gv 9 (.len false (.tmp 8)),
 gv 10 (.bin .neq (.tmp 7) (.tmp 9))]
def c11r2 : List GOp := [
 gv 4 (.mv (.const (.bool false)))]
def c11r3 : List GOp := [
 gv 5 (.mv (.const (.int .i64 0)))]
def c11r4 : List GOp := [
 gv 11 (.mv (.tmp 5)),
 gv 12 (.mv (.tmp 0)),
 gv 13 (.len false (.tmp 12)),
 gv 14 (.bin .lss (.tmp 11) (.tmp 13))]
def c11r5 : List GOp := [
 gv 17 (.mv (.tmp 0)),
 gv 18 (.mv (.tmp 5)),
 gv 19 (.idxA 13 (.tmp 17) (.tmp 18)),
 gv 20 (.load 13 true (.tmp 19)),
 gv 21 (.mv (.tmp 1)),
 gv 22 (.mv (.tmp 5)),
 gv 23 (.idxA 13 (.tmp 21) (.tmp 22)),
 gv 24 (.load 13 true (.tmp 23)),
 gv 25 (.beq true [.int, .int, .int, .int, .int, .int, .int, .int, .int, .int, .int, .int, .int] (.tmp 20) (.tmp 24))]
def c11r6 : List GOp := [
 gv 4 (.mv (.const (.bool false)))]
def c11r7 : List GOp := [
 gv 15 (.mv (.tmp 5)),
 gv 16 (.bin .add (.tmp 15) (.const (.int .i64 1))),
 gv 5 (.mv (.tmp 16))]
def c11l8 : DE := .seq (.seq (.reg c11r4) (.cond (.tmp 14) (.skip) (.exit 0))) (.seq (.block 1 (.seq (.par true true true 8 c11r5) (.cond (.tmp 25) (.seq (.reg c11r6) (.ret)) (.skip)))) (.reg c11r7))
def c11r9 : List GOp := [
 gv 4 (.mv (.const (.bool true)))]
def c11 : EFn := ⟨26, .seq (.reg c11r0) (.seq (.seq (.reg c11r1) (.cond (.tmp 10) (.seq (.reg c11r2) (.ret)) (.skip))) (.join (.seq (.reg c11r3) (.block 0 (.loop c11l8))) (.seq (.reg c11r9) (.ret)))), [.tmp 4]⟩
theorem c11_ok : compF Try.prog 11 = some c11.er := by kernel_rfl
noncomputable def ref16_Same_l2 (a : (List Finding)) (b : (List Finding)) : Int → Option ((Int) ⊕ ((Unit) ⊕ (Bool)))
 | i1 =>
 bif (io.lt i1 (io.len (W eFinding a))) then (
 Option.bind (idxG a i1) fun x2 =>
 Option.bind (idxG b i1) fun x3 =>
 bif (io.not (qFinding x2 x3)) then (
 some (.inr (.inr false))
 ) else (
 some (.inl (io.ar .add .i64 i1 1))
 )
 ) else (
 some (.inr (.inl ()))
 )
noncomputable def ref16_Same_g (a : (List Finding)) (b : (List Finding)) : Option (Bool) :=
 bif (io.not (io.eq (io.len (W eFinding a)) (io.len (W eFinding b)))) then (
 some false
 ) else (
 orR (
 whileG (ref16_Same_l2 a b) 0
 ) fun _ =>
 some true
 )
set_option maxHeartbeats 4000000 in
theorem ref16_Same_R {P : Program} (hP : P = Try.prog) (a : (List Finding)) (b : (List Finding)) (r : Bool) (h : ref16_Same_g a b = some r) : Fn1 P 11 [vLFinding a, vLFinding b] (vB r) := by
 refine .walkE (hP ▸ c11_ok) fun K hK => ?_
 unfold ref16_Same_g at h
 cbv
 refine brkG h (fun h => ?_) (fun h => ?_)
 · cbv
   obtain rfl := oj h
   exact hK _ _ (by first | rfl | exact W_nil _ | (cbv; simp only [W_nilx]))
 · cbv
   refine .ga h (fun (_ : Unit) => rp 26 .top) (fun (_ : Unit) => []) (fun y hm hr1 Kn1 hKn1 => ?_) fun t h => ?_
   · have h := hm
     clear hm
     cbv
     refine .g h (fun (i1 : Int) => [.d (.sl (W eFinding a)), .d (.sl (W eFinding b))] ++ rp 3 .top ++ [oi i1] ++ rp 20 .top) (fun (i1 : Int) => []) (.nz (.mtE [] ?_)) fun s x h hr2 Kn2 hKn2 => ?_
     · (cbv; repeat (refine ⟨an_, ?_⟩; cbv))
     unfold ref16_Same_l2 at h
     obtain ⟨i1, rfl⟩ : ∃ z, z = s := ⟨_, rfl⟩
     cbv
     refine brkG h (fun h => ?_) (fun h => ?_)
     · cbv
       refine .g h (fun _ => rfl) fun x2 h => ?_
       cbv
       refine .g h (fun _ => rfl) fun x3 h => ?_
       cbv
       refine brkG h (fun h => ?_) (fun h => ?_)
       · cbv
         obtain rfl := oj h
         obtain rfl := hr2 _ rfl
         obtain rfl := hr1 _ rfl
         exact hK _ _ (by first | rfl | exact W_nil _ | (cbv; simp only [W_nilx]))
       · cbv
         obtain rfl := oj h
         refine hKn2 _ _ _ rfl (.nz (.mtE [] ?_))
         (cbv; repeat (refine ⟨an_, ?_⟩; cbv))
     · cbv
       obtain rfl := oj h
       obtain rfl := hr2 _ rfl
       refine hKn1 _ _ _ rfl (.nz (.mtE [] ?_))
       (cbv; repeat (refine ⟨an_, ?_⟩; cbv))
   cbv
   obtain rfl := oj h
   exact hK _ _ (by first | rfl | exact W_nil _ | (cbv; simp only [W_nilx]))
end Go.SX.Cl
namespace Go.SX.Cl
open Go Go.SX Go.Proofs
set_option maxRecDepth 100000
def c23r0 : List GOp := [
 gv 6 (.mv (.const (.slice none 0 0)))]
def c23r1 : List GOp := [
 gv 8 (.call 22 []),
 gv 7 (.alloc 54 (.agg #[oz, oz, oz, oz, oz, oz, oz, oz, oz, oz, oz, oz, oz, oz, oz, oz, oz, oz, oz, oz])),
 ⟨none, .store 20 (.tmp 7) (.tmp 8), none⟩]
def c23r2 : List GOp := [
 gv 9 (.mv (.tmp 0)),
 gv 10 (.mv (.tmp 1)),
 gv 11 (.mv (.tmp 2)),
 gv 12 (.build (.agg #[oz, oz]) [((0, 1), (.tmp 10)), ((1, 1), (.tmp 11))]),
 gv 13 (.idxP 10 2 (.tmp 7) (.tmp 9)),
 ⟨none, .store 2 (.tmp 13) (.tmp 12), none⟩]
def c23r3 : List GOp := [
 gv 14 (.load 20 true (.tmp 7)),
 gv 15 (.bslice 54 20 1 (.agg #[oz, oz, oz, oz, oz, oz, oz, oz, oz, oz, oz, oz, oz, oz, oz, oz, oz, oz, oz, oz]) [(0, (.tmp 14))]),
 gv 6 (.mv (.tmp 15))]
def c23 : EFn := ⟨16, .seq (.reg c23r0) (.seq (.reg c23r1) (.join (.reg c23r2) (.seq (.reg c23r3) (.ret)))), [.tmp 6]⟩
theorem c23_ok : compF Try.prog 23 = some c23.er := by kernel_rfl
noncomputable def law16_zone_g (attr : Int) (lo : Int) (hi : Int) : Option ((List (A10 Range))) :=
 Option.bind (resolve_Limits_g) fun v1 =>
 Option.bind (
 Option.bind (pixG 10 attr) fun i3 =>
 some (v1.put i3 (Range.mk lo hi))
 ) fun z2 =>
 Option.bind (some [z2]) fun l4 =>
 some l4
set_option maxHeartbeats 4000000 in
theorem law16_zone_R {P : Program} (hP : P = Try.prog) (attr : Int) (lo : Int) (hi : Int) (r : (List (A10 Range))) (h : law16_zone_g attr lo hi = some r) : Fn1 P 23 [vIi64 attr, vIi64 lo, vIi64 hi] (vLA10Range r) := by
 refine .walkE (hP ▸ c23_ok) fun K hK => ?_
 unfold law16_zone_g at h
 cbv
 refine .g h (fun v hv => resolve_Limits_R hP v hv) (by first | rfl | exact W_nil _ | (cbv; simp only [W_nilx])) rfl (fun _ => rfl) fun v1 h => ?_
 cbv
 refine .g h (fun (z2 : (A10 Range)) => rp 7 .top ++ [.ptr 0 0] ++ rp 8 .top) (fun (z2 : (A10 Range)) => [.cells [oi z2.a0.Lo, oi z2.a0.Hi, oi z2.a1.Lo, oi z2.a1.Hi, oi z2.a2.Lo, oi z2.a2.Hi, oi z2.a3.Lo, oi z2.a3.Hi, oi z2.a4.Lo, oi z2.a4.Hi, oi z2.a5.Lo, oi z2.a5.Hi, oi z2.a6.Lo, oi z2.a6.Hi, oi z2.a7.Lo, oi z2.a7.Hi, oi z2.a8.Lo, oi z2.a8.Hi, oi z2.a9.Lo, oi z2.a9.Hi] 54]) (fun y hm Kn1 hKn1 => ?_) fun t h => ?_
 · have h := hm
   clear hm
   cbv
   refine .c10 h ?_ ?_ ?_ ?_ ?_ ?_ ?_ ?_ ?_ ?_ <;> (
     intro hni3 h
     cbv
     obtain rfl := oj h
     refine hKn1 _ _ _ rfl (.nz (.mtE [0] ?_))
     (cbv; repeat (refine ⟨an_, ?_⟩; cbv))
     )
 obtain ⟨z2, rfl⟩ : ∃ z, z = t := ⟨_, rfl⟩
 cbv
 refine .g (e := eA10Range) h (W_cons (by first | rfl | exact W_nil _ | (cbv; simp only [W_nilx])) (W_nil' _)) fun l4 h => ?_
 cbv
 obtain rfl := oj h
 exact hK _ _ (by first | rfl | exact W_nil _ | (cbv; simp only [W_nilx]))
end Go.SX.Cl
