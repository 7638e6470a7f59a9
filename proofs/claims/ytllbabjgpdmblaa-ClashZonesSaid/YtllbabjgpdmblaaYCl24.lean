/- Parts of the proof. -/
import Derived.Test.YtllbabjgpdmblaaYClT
import Derived.Test.YtllbabjgpdmblaaYCl48
namespace Go.SX.Cl
open Go Go.SX Go.Proofs
set_option maxRecDepth 100000
def c24r0 : List GOp := [
 gv 2 (.box 24 (.tmp 0)),
 gv 4 (.mv (.const (.bool false)))]
def c24r1 : List GOp := [
 gv 6 (.fadd 0 (.tmp 2)),
 gv 7 (.load 1 false (.tmp 6)),
 gv 8 (.len false (.tmp 7)),
 gv 9 (.mv (.tmp 1)),
 gv 10 (.bin .gtr (.tmp 8) (.tmp 9))]
def c24r2 : List GOp := [
 gv 4 (.mv (.const (.bool false)))]
def c24r3 : List GOp := [
 gv 5 (.mv (.const (.int .i64 0)))]
def c24r4 : List GOp := [
 gv 11 (.mv (.tmp 5)),
 gv 12 (.fadd 0 (.tmp 2)),
 gv 13 (.load 1 false (.tmp 12)),
 gv 14 (.len false (.tmp 13)),
 gv 15 (.bin .lss (.tmp 11) (.tmp 14))]
def c24r5 : List GOp := [
 gv 18 (.fadd 0 (.tmp 2)),
 gv 19 (.load 1 false (.tmp 18)),
 gv 20 (.mv (.tmp 5)),
 gv 21 (.idxA 8 (.tmp 19) (.tmp 20)),
 gv 22 (.fadd 2 (.tmp 21)),
 gv 23 (.load 1 false (.tmp 22)),
 gv 24 (.len false (.tmp 23)),
 gv 25 (.bin .gtr (.tmp 24) (.const (.int .i64 30))),
 gv 26 (.mv (.tmp 25)),
 gw 27 26 false (.fadd 0 (.tmp 2)),
 gw 28 26 false (.load 1 false (.tmp 27)),
 gw 29 26 false (.mv (.tmp 5)),
 gw 30 26 false (.idxA 8 (.tmp 28) (.tmp 29)),
 gw 31 26 false (.fadd 1 (.tmp 30)),
 gw 32 26 false (.load 1 false (.tmp 31)),
 gw 33 26 false (.len true (.tmp 32)),
 gw 34 26 false (.bin .gtr (.tmp 33) (.const (.int .i64 200))),
 gv 35 (.pick (.tmp 26) (.const (.bool true)) (.tmp 34))]
def c24r6 : List GOp := [
 gv 4 (.mv (.const (.bool false)))]
def c24r7 : List GOp := [
 gv 16 (.mv (.tmp 5)),
 gv 17 (.bin .add (.tmp 16) (.const (.int .i64 1))),
 gv 5 (.mv (.tmp 17))]
def c24l8 : DE := .seq (.seq (.reg c24r4) (.cond (.tmp 15) (.skip) (.exit 0))) (.seq (.block 1 (.join (.reg c24r5) (.cond (.tmp 35) (.seq (.reg c24r6) (.ret)) (.skip)))) (.reg c24r7))
def c24r9 : List GOp := [
 gv 4 (.mv (.const (.bool true)))]
def c24 : EFn := ⟨36, .seq (.reg c24r0) (.seq (.seq (.reg c24r1) (.cond (.tmp 10) (.seq (.reg c24r2) (.ret)) (.skip))) (.join (.seq (.reg c24r3) (.block 0 (.loop c24l8))) (.seq (.reg c24r9) (.ret)))), [.tmp 4]⟩
theorem c24_ok : compF Try.prog 24 = some c24.er := by kernel_rfl
noncomputable def ref13_Few_l2 (p : Policy) : Int → Option ((Int) ⊕ ((Unit) ⊕ (Bool)))
 | i1 =>
 bif (io.lt i1 (io.len (W eRule p.Rules))) then (
 Option.bind (
 Option.bind (idxG p.Rules i1) fun x3 =>
 bif (io.lt 30 (io.len (W eA10Range x3.Zones))) then (
 some true
 ) else (
 Option.bind (idxG p.Rules i1) fun x4 =>
 some (io.lt 200 (io.ssz x4.Name))
 )
 ) fun v2 =>
 bif v2 then (
 some (.inr (.inr false))
 ) else (
 some (.inl (io.ar .add .i64 i1 1))
 )
 ) else (
 some (.inr (.inl ()))
 )
noncomputable def ref13_Few_g (p : Policy) (n : Int) : Option (Bool) :=
 bif (io.lt n (io.len (W eRule p.Rules))) then (
 some false
 ) else (
 orR (
 whileG (ref13_Few_l2 p) 0
 ) fun _ =>
 some true
 )
set_option maxHeartbeats 4000000 in
theorem ref13_Few_R {P : Program} (hP : P = Try.prog) (p : Policy) (n : Int) (r : Bool) (h : ref13_Few_g p n = some r) : Fn1 P 24 [vPolicy p, vIi64 n] (vB r) := by
 refine .walkE (hP ▸ c24_ok) fun K hK => ?_
 unfold ref13_Few_g at h
 cbv
 refine brkG h (fun h => ?_) (fun h => ?_)
 · cbv
   obtain rfl := oj h
   exact hK _ _ (by first | rfl | exact W_nil _ | (cbv; simp only [W_nilx]))
 · cbv
   refine .ga h (fun (_ : Unit) => rp 36 .top) (fun (_ : Unit) => []) (fun y hm hr1 Kn1 hKn1 => ?_) fun t h => ?_
   · have h := hm
     clear hm
     cbv
     refine .g h (fun (i1 : Int) => [.top, .top, .ptr 0 0, .top, .top, oi i1] ++ rp 30 .top) (fun (i1 : Int) => [.cells [.d (.sl (W eRule p.Rules))] 24]) (.nz (.mtE [0] ?_)) fun s x h hr2 Kn2 hKn2 => ?_
     · (cbv; repeat (refine ⟨an_, ?_⟩; cbv))
     unfold ref13_Few_l2 at h
     obtain ⟨i1, rfl⟩ : ∃ z, z = s := ⟨_, rfl⟩
     cbv
     refine brkG h (fun h => ?_) (fun h => ?_)
     · cbv
       refine .g h (fun (v2 : Bool) => [.top, .top, .ptr 0 0, .top, .top, oi i1] ++ rp 29 .top ++ [ob v2]) (fun (v2 : Bool) => [.cells [.d (.sl (W eRule p.Rules))] 24]) (fun y hm Kn3 hKn3 => ?_) fun t h => ?_
       · have h := hm
         clear hm
         cbv
         refine .g h (fun _ => rfl) fun x3 h => ?_
         cbv
         refine brkG h (fun h => ?_) (fun h => ?_)
         · cbv
           obtain rfl := oj h
           refine hKn3 _ _ _ rfl (.nz (.mtE [0] ?_))
           (cbv; repeat (refine ⟨an_, ?_⟩; cbv))
         · cbv
           refine .g h (fun _ => rfl) fun x4 h => ?_
           cbv
           obtain rfl := oj h
           refine hKn3 _ _ _ rfl (.nz (.mtE [0] ?_))
           (cbv; repeat (refine ⟨an_, ?_⟩; cbv))
       obtain ⟨v2, rfl⟩ : ∃ z, z = t := ⟨_, rfl⟩
       cbv
       refine brkG h (fun h => ?_) (fun h => ?_)
       · cbv
         obtain rfl := oj h
         obtain rfl := hr2 _ rfl
         obtain rfl := hr1 _ rfl
         exact hK _ _ (by first | rfl | exact W_nil _ | (cbv; simp only [W_nilx]))
       · cbv
         obtain rfl := oj h
         refine hKn2 _ _ _ rfl (.nz (.mtE [0] ?_))
         (cbv; repeat (refine ⟨an_, ?_⟩; cbv))
     · cbv
       obtain rfl := oj h
       obtain rfl := hr2 _ rfl
       refine hKn1 _ _ _ rfl (.nz (.mtE [] ?_))
       (cbv; repeat (refine ⟨an_, ?_⟩; cbv))
   cbv
   obtain rfl := oj h
   exact hK _ _ (by first | rfl | exact W_nil _ | (cbv; simp only [W_nilx]))
end Go.SX.Cl
namespace Go.SX.Cl
open Go Go.SX Go.Proofs
set_option maxRecDepth 100000
def c10r0 : List GOp := [
 gv 2 (.box 24 (.tmp 0)),
 gv 4 (.mv (.const (.bool false)))]
def c10r1 : List GOp := [
 gv 5 (.load 1 true (.tmp 2)),
 gv 6 (.mv (.tmp 1)),
 gv 7 (.call 24 [(.tmp 5), (.tmp 6)]),
 gv 8 (.mv (.tmp 7)),
 gw 9 8 true (.load 1 true (.tmp 2)),
 gw 10 8 true (.call 25 [(.tmp 9), (.const (.int .i64 3000))]),
 gw 11 8 true (.bin .leq (.tmp 10) (.const (.int .i64 3000))),
 gv 12 (.pick (.tmp 8) (.tmp 11) (.const (.bool false))),
 gv 4 (.mv (.tmp 12))]
def c10 : EFn := ⟨13, .seq (.reg c10r0) (.seq (.reg c10r1) (.ret)), [.tmp 4]⟩
theorem c10_ok : compF Try.prog 10 = some c10.er := by kernel_rfl
noncomputable def law16_few_g (p : Policy) (n : Int) : Option (Bool) :=
 Option.bind (ref13_Few_g p n) fun v1 =>
 bif v1 then (
 Option.bind (ref16_Cells_g p 3000) fun v2 =>
 some (io.le v2 3000)
 ) else (
 some false
 )
set_option maxHeartbeats 4000000 in
theorem law16_few_R {P : Program} (hP : P = Try.prog) (p : Policy) (n : Int) (r : Bool) (h : law16_few_g p n = some r) : Fn1 P 10 [vPolicy p, vIi64 n] (vB r) := by
 refine .walkE (hP ▸ c10_ok) fun K hK => ?_
 unfold law16_few_g at h
 cbv
 refine .g h (fun v hv => ref13_Few_R hP _ _ v hv) (by first | rfl | exact W_nil _ | (cbv; simp only [W_nilx])) rfl (fun _ => rfl) fun v1 h => ?_
 cbv
 refine brkG h (fun h => ?_) (fun h => ?_)
 · cbv
   refine .g h (fun v hv => ref16_Cells_R hP _ _ v hv) (by first | rfl | exact W_nil _ | (cbv; simp only [W_nilx])) rfl (fun _ => rfl) fun v2 h => ?_
   cbv
   obtain rfl := oj h
   exact hK _ _ (by first | rfl | exact W_nil _ | (cbv; simp only [W_nilx]))
 · cbv
   obtain rfl := oj h
   exact hK _ _ (by first | rfl | exact W_nil _ | (cbv; simp only [W_nilx]))
end Go.SX.Cl
