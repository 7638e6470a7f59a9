/- Parts of the proof. -/
import Derived.Test.YtllbabjgpdmblaaZClT
import Derived.Test.YtllbabjgpdmblaaZCl11
set_option linter.unusedSimpArgs false
set_option linter.unusedVariables false
namespace Go.SX.Cl
open Go Go.SX Go.Proofs
set_option maxRecDepth 100000
def c46r0 : List GOp := [
 gv 1 (.box 54 (.tmp 0)),
 gv 2 (.mv (.const (.bool false)))]
def c46r1 : List GOp := [
 gv 6 (.call 22 []),
 gv 3 (.alloc 54 (.agg #[oz, oz, oz, oz, oz, oz, oz, oz, oz, oz, oz, oz, oz, oz, oz, oz, oz, oz, oz, oz])),
 ⟨none, .store 20 (.tmp 3) (.tmp 6), none⟩]
def c46r2 : List GOp := [
 gv 7 (.load 20 true (.tmp 1)),
 gv 8 (.mv (.const (.int .i64 0)))]
def c46r3 : List GOp := [
 gv 9 (.bin .lss (.tmp 8) (.const (.int .i64 10)))]
def c46r4 : List GOp := [
 gv 10 (.mv (.tmp 8)),
 gv 11 (.idxV 10 2 true (.tmp 7) (.tmp 8)),
 gv 5 (.alloc 52 (.agg #[oz, oz])),
 gv 4 (.mv (.tmp 10)),
 ⟨none, .store 2 (.tmp 5) (.tmp 11), none⟩]
def c46r5 : List GOp := [
 gv 12 (.fadd 0 (.tmp 5)),
 gv 13 (.load 1 false (.tmp 12)),
 gv 14 (.fadd 1 (.tmp 5)),
 gv 15 (.load 1 false (.tmp 14)),
 gv 16 (.bin .gtr (.tmp 13) (.tmp 15)),
 gv 17 (.mv (.tmp 16)),
 gw 18 17 false (.fadd 0 (.tmp 5)),
 gw 19 17 false (.load 1 false (.tmp 18)),
 gw 20 17 false (.mv (.tmp 4)),
 gw 21 17 false (.idxP 10 2 (.tmp 3) (.tmp 20)),
 gw 22 17 false (.fadd 0 (.tmp 21)),
 gw 23 17 false (.load 1 false (.tmp 22)),
 gw 24 17 false (.bin .lss (.tmp 19) (.tmp 23)),
 gv 25 (.pick (.tmp 17) (.const (.bool true)) (.tmp 24)),
 gv 26 (.mv (.tmp 25)),
 gw 27 26 false (.fadd 1 (.tmp 5)),
 gw 28 26 false (.load 1 false (.tmp 27)),
 gw 29 26 false (.mv (.tmp 4)),
 gw 30 26 false (.idxP 10 2 (.tmp 3) (.tmp 29)),
 gw 31 26 false (.fadd 1 (.tmp 30)),
 gw 32 26 false (.load 1 false (.tmp 31)),
 gw 33 26 false (.bin .gtr (.tmp 28) (.tmp 32)),
 gv 34 (.pick (.tmp 26) (.const (.bool true)) (.tmp 33))]
def c46r6 : List GOp := [
 gv 2 (.mv (.const (.bool false)))]
def c46r7 : List GOp := [
 gv 35 (.bin .add (.tmp 8) (.const (.int .i64 1))),
 gv 8 (.mv (.tmp 35))]
def c46l8 : DE := .seq (.reg c46r3) (.seq (.cond (.tmp 9) (.skip) (.exit 0)) (.seq (.block 1 (.join (.reg c46r4) (.join (.par true true true 21 c46r5) (.cond (.tmp 34) (.seq (.reg c46r6) (.ret)) (.skip))))) (.reg c46r7)))
def c46r9 : List GOp := [
 gv 2 (.mv (.const (.bool true)))]
def c46 : EFn := ⟨36, .seq (.reg c46r0) (.seq (.reg c46r1) (.join (.seq (.reg c46r2) (.block 0 (.loop c46l8))) (.seq (.reg c46r9) (.ret)))), [.tmp 2]⟩
theorem c46_ok : compF Try.prog 46 = some c46.er := by kernel_rfl
noncomputable def decide_within_l2 (z : (A10 Range)) (v1 : (A10 Range)) : Int → Option ((Int) ⊕ ((Unit) ⊕ (Bool)))
 | v2 =>
 bif (io.lt v2 10) then (
 Option.bind (
 Option.bind (pixG 10 v2) fun i5 =>
 some ((z.get i5).Lo, (z.get i5).Hi)
 ) fun (Lo3, Hi4) =>
 Option.bind (
 bif (io.lt Hi4 Lo3) then (
 some true
 ) else (
 Option.bind (pixG 10 v2) fun i7 =>
 bif (io.lt Lo3 (v1.get i7).Lo) then (
 some true
 ) else (
 some (io.lt (v1.get i7).Hi Hi4)
 )
 )
 ) fun v6 =>
 bif v6 then (
 some (.inr (.inr false))
 ) else (
 some (.inl (io.ar .add .i64 v2 1))
 )
 ) else (
 some (.inr (.inl ()))
 )
noncomputable def decide_within_g (z : (A10 Range)) : Option (Bool) :=
 Option.bind (resolve_Limits_g) fun v1 =>
 orR (
 whileG (decide_within_l2 z v1) 0
 ) fun _ =>
 some true
set_option maxHeartbeats 4000000 in
theorem decide_within_R {P : Program} (hP : P = Try.prog) (z : (A10 Range)) (r : Bool) (h : decide_within_g z = some r) : Fn1 P 46 [vA10Range z] (vB r) := by
 refine .walkE (hP ▸ c46_ok) fun K hK => ?_
 unfold decide_within_g at h
 cbv
 refine .g h (fun v hv => resolve_Limits_R hP v hv) aw_ rfl (fun _ => rfl) fun v1 h => ?_
 cbv
 refine .ga h (fun (_ : Unit) => rp 36 .top) (fun (_ : Unit) => []) (fun y hm hr1 Kn1 hKn1 => ?_) fun t h => ?_
 · have h := hm
   clear hm
   cbv
   refine .g h (fun (v2 : Int) => rp 3 .top ++ [.ptr 0 0] ++ rp 3 .top ++ [.agg [oi z.a0.Lo, oi z.a0.Hi, oi z.a1.Lo, oi z.a1.Hi, oi z.a2.Lo, oi z.a2.Hi, oi z.a3.Lo, oi z.a3.Hi, oi z.a4.Lo, oi z.a4.Hi, oi z.a5.Lo, oi z.a5.Hi, oi z.a6.Lo, oi z.a6.Hi, oi z.a7.Lo, oi z.a7.Hi, oi z.a8.Lo, oi z.a8.Hi, oi z.a9.Lo, oi z.a9.Hi], oi v2] ++ rp 27 .top) (fun (v2 : Int) => [.cells [oi v1.a0.Lo, oi v1.a0.Hi, oi v1.a1.Lo, oi v1.a1.Hi, oi v1.a2.Lo, oi v1.a2.Hi, oi v1.a3.Lo, oi v1.a3.Hi, oi v1.a4.Lo, oi v1.a4.Hi, oi v1.a5.Lo, oi v1.a5.Hi, oi v1.a6.Lo, oi v1.a6.Hi, oi v1.a7.Lo, oi v1.a7.Hi, oi v1.a8.Lo, oi v1.a8.Hi, oi v1.a9.Lo, oi v1.a9.Hi] 54]) (.nz (.mtE [1] ?_)) fun s x h hr2 Kn2 hKn2 => ?_
   · (cbv; repeat (refine ⟨an_, ?_⟩; cbv))
   unfold decide_within_l2 at h
   obtain ⟨v2, rfl⟩ : ∃ z, z = s := ⟨_, rfl⟩
   cbv
   refine brkG h ?_ ?_ <;> intro h
   · cbv
     refine .g h (fun ((Lo3, Hi4) : Int × Int) => rp 3 .top ++ [.ptr 0 0, oi v2, .ptr 1 0, .top, .agg [oi z.a0.Lo, oi z.a0.Hi, oi z.a1.Lo, oi z.a1.Hi, oi z.a2.Lo, oi z.a2.Hi, oi z.a3.Lo, oi z.a3.Hi, oi z.a4.Lo, oi z.a4.Hi, oi z.a5.Lo, oi z.a5.Hi, oi z.a6.Lo, oi z.a6.Hi, oi z.a7.Lo, oi z.a7.Hi, oi z.a8.Lo, oi z.a8.Hi, oi z.a9.Lo, oi z.a9.Hi], oi v2] ++ rp 27 .top) (fun ((Lo3, Hi4) : Int × Int) => [.cells [oi v1.a0.Lo, oi v1.a0.Hi, oi v1.a1.Lo, oi v1.a1.Hi, oi v1.a2.Lo, oi v1.a2.Hi, oi v1.a3.Lo, oi v1.a3.Hi, oi v1.a4.Lo, oi v1.a4.Hi, oi v1.a5.Lo, oi v1.a5.Hi, oi v1.a6.Lo, oi v1.a6.Hi, oi v1.a7.Lo, oi v1.a7.Hi, oi v1.a8.Lo, oi v1.a8.Hi, oi v1.a9.Lo, oi v1.a9.Hi] 54, .cells [oi Lo3, oi Hi4] 52]) (fun y hm Kn3 hKn3 => ?_) fun t h => ?_
     · have h := hm
       clear hm
       cbv
       refine .c10 h ?_ ?_ ?_ ?_ ?_ ?_ ?_ ?_ ?_ ?_ <;> (
         intro hni5 h
         cbv
         obtain rfl := oj h
         refine hKn3 _ _ _ rfl (.nz (.mtE [0, 1] ?_))
         (cbv; repeat (refine ⟨an_, ?_⟩; cbv))
         )
     obtain ⟨Lo3, Hi4⟩ := t
     cbv
     refine .g h (fun (v6 : Bool) => rp 3 .top ++ [.ptr 0 0] ++ rp 3 .top ++ [.agg [oi z.a0.Lo, oi z.a0.Hi, oi z.a1.Lo, oi z.a1.Hi, oi z.a2.Lo, oi z.a2.Hi, oi z.a3.Lo, oi z.a3.Hi, oi z.a4.Lo, oi z.a4.Hi, oi z.a5.Lo, oi z.a5.Hi, oi z.a6.Lo, oi z.a6.Hi, oi z.a7.Lo, oi z.a7.Hi, oi z.a8.Lo, oi z.a8.Hi, oi z.a9.Lo, oi z.a9.Hi], oi v2] ++ rp 25 .top ++ [ob v6, .top]) (fun (v6 : Bool) => [.cells [oi v1.a0.Lo, oi v1.a0.Hi, oi v1.a1.Lo, oi v1.a1.Hi, oi v1.a2.Lo, oi v1.a2.Hi, oi v1.a3.Lo, oi v1.a3.Hi, oi v1.a4.Lo, oi v1.a4.Hi, oi v1.a5.Lo, oi v1.a5.Hi, oi v1.a6.Lo, oi v1.a6.Hi, oi v1.a7.Lo, oi v1.a7.Hi, oi v1.a8.Lo, oi v1.a8.Hi, oi v1.a9.Lo, oi v1.a9.Hi] 54]) (fun y hm Kn3 hKn3 => ?_) fun t h => ?_
     · have h := hm
       clear hm
       cbv
       refine brkG h ?_ ?_ <;> intro h
       · cbv
         obtain rfl := oj h
         refine hKn3 _ _ _ rfl (.nz (.mtE [0] ?_))
         (cbv; repeat (refine ⟨an_, ?_⟩; cbv))
       · cbv
         refine .c10 h ?_ ?_ ?_ ?_ ?_ ?_ ?_ ?_ ?_ ?_ <;> (
           intro hni7 h
           cbv
           refine brkG h ?_ ?_ <;> intro h
           · cbv
             obtain rfl := oj h
             refine hKn3 _ _ _ rfl (.nz (.mtE [0] ?_))
             (cbv; repeat (refine ⟨an_, ?_⟩; cbv))
           · cbv
             refine .at _ hni7 (by decide) ?_
             cbv
             obtain rfl := oj h
             refine hKn3 _ _ _ rfl (.nz (.mtE [0] ?_))
             (cbv; repeat (refine ⟨an_, ?_⟩; cbv))
           )
     obtain ⟨v6, rfl⟩ : ∃ z, z = t := ⟨_, rfl⟩
     cbv
     refine brkG h ?_ ?_ <;> intro h
     · cbv
       obtain rfl := oj h
       obtain rfl := hr2 _ rfl
       obtain rfl := hr1 _ rfl
       exact hK _ _ aw_
     · cbv
       obtain rfl := oj h
       refine hKn2 _ _ _ rfl (.nz (.mtE [0] ?_))
       (cbv; repeat (refine ⟨an_, ?_⟩; cbv))
   · cbv
     obtain rfl := oj h
     obtain rfl := hr2 _ rfl
     refine hKn1 _ _ _ rfl (.nz (.mtE [] ?_))
     (cbv; repeat (refine ⟨an_, ?_⟩; cbv))
 cbv
 obtain rfl := oj h
 exact hK _ _ aw_
end Go.SX.Cl
namespace Go.SX.Cl
open Go Go.SX Go.Proofs
set_option maxRecDepth 100000
def c47r0 : List GOp := [
 gv 4 (.mv (.const (.bool false)))]
def c47r1 : List GOp := [
 gv 5 (.mv (.tmp 0)),
 gv 6 (.mv (.tmp 1)),
 gv 7 (.call 63 [(.tmp 5), (.tmp 6)]),
 gv 8 (.bin .geq (.tmp 7) (.const (.int .i64 0))),
 gv 4 (.mv (.tmp 8))]
def c47 : EFn := ⟨9, .seq (.reg c47r0) (.seq (.reg c47r1) (.ret)), [.tmp 4]⟩
theorem c47_ok : compF Try.prog 47 = some c47.er := by kernel_rfl
def c63r0 : List GOp := [
 gv 4 (.mv (.const (.int .i64 0)))]
def c63r1 : List GOp := [
 gv 6 (.mv (.tmp 0)),
 gv 7 (.len false (.tmp 6)),
 gv 8 (.mv (.const (.int .i64 0)))]
def c63r2 : List GOp := [
 gv 9 (.bin .lss (.tmp 8) (.tmp 7))]
def c63r3 : List GOp := [
 gv 10 (.mv (.tmp 8)),
 gv 5 (.mv (.tmp 10))]
def c63r4 : List GOp := [
 gv 11 (.mv (.tmp 1)),
 gv 12 (.mv (.tmp 0)),
 gv 13 (.mv (.tmp 5)),
 gv 14 (.idxA 8 (.tmp 12) (.tmp 13)),
 gv 15 (.load 8 true (.tmp 14)),
 gv 16 (.callv (.tmp 11) [(.tmp 15)])]
def c63r5 : List GOp := [
 gv 17 (.mv (.tmp 5)),
 gv 4 (.mv (.tmp 17))]
def c63r6 : List GOp := [
 gv 18 (.bin .add (.tmp 8) (.const (.int .i64 1))),
 gv 8 (.mv (.tmp 18))]
def c63l7 : DE := .seq (.reg c63r2) (.seq (.cond (.tmp 9) (.skip) (.exit 0)) (.seq (.block 1 (.seq (.reg c63r3) (.join (.reg c63r4) (.cond (.tmp 16) (.seq (.reg c63r5) (.ret)) (.skip))))) (.reg c63r6)))
def c63r8 : List GOp := [
 gv 4 (.mv (.const (.int .i64 (-1))))]
def c63 : EFn := ⟨19, .seq (.reg c63r0) (.join (.seq (.reg c63r1) (.block 0 (.loop c63l7))) (.seq (.reg c63r8) (.ret))), [.tmp 4]⟩
theorem c63_ok : compF Try.prog 63 = some c63.er := by kernel_rfl
def c43r0 : List GOp := [
 gv 2 (.box 41 (.tmp 0)),
 gv 3 (.mv (.const (.bool false)))]
def c43r1 : List GOp := [
 gv 5 (.load 1 false (.tmp 1)),
 gv 6 (.fadd 1 (.tmp 2)),
 gv 7 (.load 1 false (.tmp 6)),
 gv 8 (.mget .str false false (.bool false) (.tmp 5) (.tmp 7)),
 gv 4 (.mv (.tmp 8))]
def c43r2 : List GOp := [
 gv 9 (.load 1 false (.tmp 1)),
 gv 10 (.fadd 1 (.tmp 2)),
 gv 11 (.load 1 false (.tmp 10)),
 ⟨none, .mset .str false (.tmp 9) (.tmp 11) (.const (.bool true)), none⟩]
def c43r3 : List GOp := [
 gv 12 (.mv (.tmp 4)),
 gv 13 (.mv (.tmp 12)),
 gw 14 13 false (.load 8 true (.tmp 2)),
 gw 15 13 false (.call 44 [(.tmp 14)]),
 gw 16 13 false (.un .not (.tmp 15)),
 gv 17 (.pick (.tmp 13) (.const (.bool true)) (.tmp 16)),
 gv 18 (.mv (.tmp 17)),
 gw 19 18 false (.fadd 2 (.tmp 2)),
 gw 20 18 false (.load 1 false (.tmp 19)),
 gw 21 18 false (.len false (.tmp 20)),
 gw 22 18 false (.bin .gtr (.tmp 21) (.const (.int .i64 200))),
 gv 23 (.pick (.tmp 18) (.const (.bool true)) (.tmp 22)),
 gv 24 (.mv (.tmp 23)),
 gw 25 24 false (.fadd 2 (.tmp 2)),
 gw 26 24 false (.load 1 false (.tmp 25)),
 gw 27 24 false (.call 34 [(.tmp 26), (.func 45)]),
 gv 28 (.pick (.tmp 24) (.const (.bool true)) (.tmp 27)),
 gv 3 (.mv (.tmp 28))]
def c43 : EFn := ⟨29, .seq (.reg c43r0) (.seq (.reg c43r1) (.seq (.reg c43r2) (.seq (.reg c43r3) (.ret)))), [.tmp 3]⟩
theorem c43_ok : compF Try.prog 43 = some c43.er := by kernel_rfl
def c45r0 : List GOp := [
 gv 1 (.box 54 (.tmp 0)),
 gv 2 (.mv (.const (.bool false)))]
def c45r1 : List GOp := [
 gv 3 (.load 20 true (.tmp 1)),
 gv 4 (.call 46 [(.tmp 3)]),
 gv 5 (.un .not (.tmp 4)),
 gv 2 (.mv (.tmp 5))]
def c45 : EFn := ⟨6, .seq (.reg c45r0) (.seq (.reg c45r1) (.ret)), [.tmp 2]⟩
theorem c45_ok : compF Try.prog 45 = some c45.er := by kernel_rfl
def c20r0 : List GOp := [
 gv 1 (.box 24 (.tmp 0)),
 gv 2 (.mv (.const (.bool false)))]
def c20r1 : List GOp := [
 gv 5 (.mkm .str false),
 gv 3 (.alloc 81 (.map none)),
 ⟨none, .store 1 (.tmp 3) (.tmp 5), none⟩]
def c20r2 : List GOp := [
 gv 6 (.mkfn (.func 43) [] [(.tmp 3)]),
 gv 4 (.mv (.tmp 6))]
def c20r3 : List GOp := [
 gv 7 (.fadd 0 (.tmp 1)),
 gv 8 (.load 1 false (.tmp 7)),
 gv 9 (.len false (.tmp 8)),
 gv 10 (.bin .leq (.tmp 9) (.const (.int .i64 200))),
 gv 11 (.mv (.tmp 10)),
 gw 12 11 true (.fadd 0 (.tmp 1)),
 gw 13 11 true (.load 1 false (.tmp 12)),
 gw 14 11 true (.mv (.tmp 4)),
 gw 15 11 true (.call 47 [(.tmp 13), (.tmp 14)]),
 gw 16 11 true (.un .not (.tmp 15)),
 gv 17 (.pick (.tmp 11) (.tmp 16) (.const (.bool false))),
 gv 2 (.mv (.tmp 17))]
def c20 : EFn := ⟨18, .seq (.reg c20r0) (.seq (.reg c20r1) (.seq (.reg c20r2) (.seq (.reg c20r3) (.ret)))), [.tmp 2]⟩
theorem c20_ok : compF Try.prog 20 = some c20.er := by kernel_rfl
noncomputable def decide_Valid_l26 (x6 : Rule) (m8 : (List (ByteArray × Bool))) : Int → Option ((Int) ⊕ ((Unit) ⊕ ((List (ByteArray × Bool)) × Bool)))
 | v10 =>
 bif (io.lt v10 (io.len (W eA10Range x6.Zones))) then (
 Option.bind (
 Option.bind (idxG x6.Zones v10) fun x12 =>
 Option.bind (decide_within_g x12) fun v13 =>
 some (io.not v13)
 ) fun v11 =>
 bif v11 then (
 some (.inr (.inr (m8, (io.le 0 v10))))
 ) else (
 some (.inl (io.ar .add .i64 v10 1))
 )
 ) else (
 some (.inr (.inl ()))
 )
noncomputable def decide_Valid_l22 (p : Policy) : ((List (ByteArray × Bool)) × Int) → Option (((List (ByteArray × Bool)) × Int) ⊕ (((List (ByteArray × Bool))) ⊕ (Bool)))
 | (own2, v3) =>
 bif (io.lt v3 (io.len (W eRule p.Rules))) then (
 Option.bind (
 Option.bind (idxG p.Rules v3) fun x6 =>
 Option.bind (some (mlookD own2 x6.Name false)) fun y7 =>
 Option.bind (some (mputG own2 x6.Name true)) fun m8 =>
 bif y7 then (
 some (m8, true)
 ) else (
 Option.bind (decide_numbers_g x6) fun v9 =>
 bif (io.not v9) then (
 some (m8, true)
 ) else (
 bif (io.lt 200 (io.len (W eA10Range x6.Zones))) then (
 some (m8, true)
 ) else (
 orR (
 whileG (decide_Valid_l26 x6 m8) 0
 ) fun _ =>
 some (m8, (io.le 0 (-1)))
 )
 )
 )
 ) fun (own4, v5) =>
 bif v5 then (
 some (.inr (.inr (io.not (io.le 0 v3))))
 ) else (
 some (.inl (own4, (io.ar .add .i64 v3 1)))
 )
 ) else (
 some (.inr (.inl own2))
 )
noncomputable def decide_Valid_g (p : Policy) : Option (Bool) :=
 bif (io.le (io.len (W eRule p.Rules)) 200) then (
 orR (
 whileG (decide_Valid_l22 p) ([], 0)
 ) fun own1 =>
 some (io.not (io.le 0 (-1)))
 ) else (
 some false
 )
set_option maxHeartbeats 4000000 in
theorem decide_Valid_R {P : Program} (hP : P = Try.prog) (p : Policy) (r : Bool) (h : decide_Valid_g p = some r) : Fn1 P 20 [vPolicy p] (vB r) := by
 refine .walkE (hP ▸ c20_ok) fun K hK => ?_
 unfold decide_Valid_g at h
 cbv
 refine brkG h ?_ ?_ <;> intro h
 · cbv
   refine .inl (hP ▸ c47_ok) ?_
   cbv
   refine .inl (hP ▸ c63_ok) ?_
   cbv
   refine .ga h (fun (own1 : (List (ByteArray × Bool))) => rp 19 .top) (fun (own1 : (List (ByteArray × Bool))) => [.cells [.d (.sl (W eRule p.Rules))] 24, .mp .str false (WM Value.string eB own1), .cells [.hd 1] 81]) (fun y hm hr1 Kn1 hKn1 => ?_) fun t h => ?_
   · have h := hm
     clear hm
     cbv
     refine .g h (fun ((own2, v3) : (List (ByteArray × Bool)) × Int) => [.d (.sl (W eRule p.Rules)), .clo (.func 43) [] [.ptr 2 0]] ++ rp 5 .top ++ [oi (io.len (W eRule p.Rules)), oi v3] ++ rp 10 .top) (fun ((own2, v3) : (List (ByteArray × Bool)) × Int) => [.cells [.d (.sl (W eRule p.Rules))] 24, .mp .str false (WM Value.string eB own2), .cells [.hd 1] 81]) (.nz (.mtE [0, 1, 2] ?_)) fun s x h hr2 Kn2 hKn2 => ?_
     · (cbv; repeat (refine ⟨an_, ?_⟩; cbv))
     unfold decide_Valid_l22 at h
     obtain ⟨own2, v3⟩ := s
     cbv
     refine brkG h ?_ ?_ <;> intro h
     · cbv
       refine .g h (fun ((own4, v5) : (List (ByteArray × Bool)) × Bool) => [.d (.sl (W eRule p.Rules)), .clo (.func 43) [] [.ptr 2 0]] ++ rp 3 .top ++ [oi v3, .top, oi (io.len (W eRule p.Rules)), oi v3] ++ rp 7 .top ++ [ob v5, .top, .top]) (fun ((own4, v5) : (List (ByteArray × Bool)) × Bool) => [.cells [.d (.sl (W eRule p.Rules))] 24, .mp .str false (WM Value.string eB own4), .cells [.hd 1] 81]) (fun y hm Kn3 hKn3 => ?_) fun t h => ?_
       · have h := hm
         clear hm
         cbv
         refine .g h (fun _ => rfl) fun x6 h => ?_
         cbv
         refine .inl (hP ▸ c43_ok) ?_
         cbv
         refine .gs (e := eB) h (by first | rfl | exact WM_nil' _ _) (fun h => h) fun y7 h => ?_
         cbv
         refine .gs (e := eB) h (by first | rfl | exact WM_nil' _ _) aw_ fun m8 h => ?_
         cbv
         refine brkG h ?_ ?_ <;> intro h
         · cbv
           obtain rfl := oj h
           refine hKn3 _ _ _ rfl (.nz (.mtE [0, 1, 2] ?_))
           (cbv; repeat (refine ⟨an_, ?_⟩; cbv))
         · cbv
           refine .g h (fun v hv => decide_numbers_R hP _ v hv) aw_ rfl (fun _ => rfl) fun v9 h => ?_
           cbv
           refine brkG h ?_ ?_ <;> intro h
           · cbv
             obtain rfl := oj h
             refine hKn3 _ _ _ rfl (.nz (.mtE [0, 1, 2] ?_))
             (cbv; repeat (refine ⟨an_, ?_⟩; cbv))
           · cbv
             refine brkG h ?_ ?_ <;> intro h
             · cbv
               obtain rfl := oj h
               refine hKn3 _ _ _ rfl (.nz (.mtE [0, 1, 2] ?_))
               (cbv; repeat (refine ⟨an_, ?_⟩; cbv))
             · cbv
               refine .inl (hP ▸ c34_ok) ?_
               cbv
               refine .inl (hP ▸ c61_ok) ?_
               cbv
               refine .ga h (fun (_ : Unit) => rp 19 .top) (fun (_ : Unit) => [.cells [.d (.sl (W eRule p.Rules))] 24, .mp .str false (WM Value.string eB m8), .cells [.hd 1] 81, .cells [oi x6.Kind, .d (.val (.string x6.Name)), .d (.sl (W eA10Range x6.Zones)), oi x6.N, oi x6.R.Num, oi x6.R.Den, oi x6.S.Num, oi x6.S.Den] 41]) (fun y hm hr4 Kn4 hKn4 => ?_) fun t h => ?_
               · have h := hm
                 clear hm
                 cbv
                 refine .g h (fun (v10 : Int) => [.d (.sl (W eA10Range x6.Zones)), .clo (.func 45) [] []] ++ rp 5 .top ++ [oi (io.len (W eA10Range x6.Zones)), oi v10] ++ rp 10 .top) (fun (v10 : Int) => [.cells [.d (.sl (W eRule p.Rules))] 24, .mp .str false (WM Value.string eB m8), .cells [.hd 1] 81, .cells [oi x6.Kind, .d (.val (.string x6.Name)), .d (.sl (W eA10Range x6.Zones)), oi x6.N, oi x6.R.Num, oi x6.R.Den, oi x6.S.Num, oi x6.S.Den] 41]) (.nz (.mtE [0, 1, 2, 3] ?_)) fun s x h hr5 Kn5 hKn5 => ?_
                 · (cbv; repeat (refine ⟨an_, ?_⟩; cbv))
                 unfold decide_Valid_l26 at h
                 obtain ⟨v10, rfl⟩ : ∃ z, z = s := ⟨_, rfl⟩
                 cbv
                 refine brkG h ?_ ?_ <;> intro h
                 · cbv
                   refine .g h (fun (v11 : Bool) => [.d (.sl (W eA10Range x6.Zones)), .clo (.func 45) [] []] ++ rp 3 .top ++ [oi v10, .top, oi (io.len (W eA10Range x6.Zones)), oi v10] ++ rp 7 .top ++ [ob v11, .top, .top]) (fun (v11 : Bool) => [.cells [.d (.sl (W eRule p.Rules))] 24, .mp .str false (WM Value.string eB m8), .cells [.hd 1] 81, .cells [oi x6.Kind, .d (.val (.string x6.Name)), .d (.sl (W eA10Range x6.Zones)), oi x6.N, oi x6.R.Num, oi x6.R.Den, oi x6.S.Num, oi x6.S.Den] 41]) (fun y hm Kn6 hKn6 => ?_) fun t h => ?_
                   · have h := hm
                     clear hm
                     cbv
                     refine .g h (fun _ => rfl) fun x12 h => ?_
                     cbv
                     refine .inl (hP ▸ c45_ok) ?_
                     cbv
                     refine .g h (fun v hv => decide_within_R hP _ v hv) aw_ rfl (fun _ => rfl) fun v13 h => ?_
                     cbv
                     obtain rfl := oj h
                     refine hKn6 _ _ _ rfl (.nz (.mtE [0, 1, 2, 3] ?_))
                     (cbv; repeat (refine ⟨an_, ?_⟩; cbv))
                   obtain ⟨v11, rfl⟩ : ∃ z, z = t := ⟨_, rfl⟩
                   cbv
                   refine brkG h ?_ ?_ <;> intro h
                   · cbv
                     obtain rfl := oj h
                     obtain rfl := hr5 _ rfl
                     obtain rfl := hr4 _ rfl
                     refine hKn3 _ _ _ rfl (.nz (.mtE [0, 1, 2] ?_))
                     (cbv; repeat (refine ⟨an_, ?_⟩; cbv))
                   · cbv
                     obtain rfl := oj h
                     refine hKn5 _ _ _ rfl (.nz (.mtE [0, 1, 2, 3] ?_))
                     (cbv; repeat (refine ⟨an_, ?_⟩; cbv))
                 · cbv
                   obtain rfl := oj h
                   obtain rfl := hr5 _ rfl
                   refine hKn4 _ _ _ rfl (.nz (.mtE [0, 1, 2, 3] ?_))
                   (cbv; repeat (refine ⟨an_, ?_⟩; cbv))
               cbv
               obtain rfl := oj h
               refine hKn3 _ _ _ rfl (.nz (.mtE [0, 1, 2] ?_))
               (cbv; repeat (refine ⟨an_, ?_⟩; cbv))
       obtain ⟨own4, v5⟩ := t
       cbv
       refine brkG h ?_ ?_ <;> intro h
       · cbv
         obtain rfl := oj h
         obtain rfl := hr2 _ rfl
         obtain rfl := hr1 _ rfl
         exact hK _ _ aw_
       · cbv
         obtain rfl := oj h
         refine hKn2 _ _ _ rfl (.nz (.mtE [0, 1, 2] ?_))
         (cbv; repeat (refine ⟨an_, ?_⟩; cbv))
     · cbv
       obtain rfl := oj h
       obtain rfl := hr2 _ rfl
       refine hKn1 _ _ _ rfl (.nz (.mtE [0, 1, 2] ?_))
       (cbv; repeat (refine ⟨an_, ?_⟩; cbv))
   obtain ⟨own1, rfl⟩ : ∃ z, z = t := ⟨_, rfl⟩
   cbv
   obtain rfl := oj h
   exact hK _ _ aw_
 · cbv
   obtain rfl := oj h
   exact hK _ _ aw_
end Go.SX.Cl
namespace Go.SX.Cl
open Go Go.SX Go.Proofs
set_option maxRecDepth 100000
def c56r0 : List GOp := [
 gv 4 (.mv (.const (.slice none 0 0)))]
def c56r1 : List GOp := [
 gv 5 (.mv (.tmp 1)),
 gv 6 (.bin .lss (.tmp 5) (.const (.int .i64 0)))]
def c56r2 : List GOp := [
 gv 7 (.nope),
 ⟨none, .nope, none⟩]
def c56r3 : List GOp := [
 gv 8 (.mv (.tmp 1)),
 gv 9 (.mv (.tmp 0)),
 gv 10 (.capn (.tmp 9)),
 gv 11 (.mv (.tmp 0)),
 gv 12 (.len false (.tmp 11)),
 gv 13 (.bin .sub (.tmp 10) (.tmp 12)),
 gv 14 (.bin .sub (.tmp 8) (.tmp 13)),
 gv 1 (.mv (.tmp 14))]
def c56r4 : List GOp := [
 gv 15 (.mv (.tmp 1)),
 gv 16 (.bin .gtr (.tmp 15) (.const (.int .i64 0)))]
def c56r5 : List GOp := [
 gv 17 (.mv (.tmp 0)),
 gv 18 (.mv (.tmp 0)),
 gv 19 (.capn (.tmp 18)),
 gv 20 (.slc 13 (.tmp 17) none (some (.tmp 19))),
 gv 21 (.mv (.tmp 1)),
 gv 22 (.appz 35 13 104 (.agg #[oz, oz, oz, oz, oz, oz, oz, oz, oz, oz, oz, oz, oz]) (.tmp 20) (.tmp 21)),
 gv 23 (.mv (.tmp 0)),
 gv 24 (.len false (.tmp 23)),
 gv 25 (.slc 13 (.tmp 22) none (some (.tmp 24))),
 gv 0 (.mv (.tmp 25))]
def c56r6 : List GOp := [
 gv 26 (.mv (.tmp 0)),
 gv 4 (.mv (.tmp 26))]
def c56 : EFn := ⟨27, .seq (.reg c56r0) (.join (.seq (.reg c56r1) (.cond (.tmp 6) (.reg c56r2) (.skip))) (.join (.seq (.reg c56r3) (.seq (.reg c56r4) (.cond (.tmp 16) (.reg c56r5) (.skip)))) (.seq (.reg c56r6) (.ret)))), [.tmp 4]⟩
theorem c56_ok : compF Try.prog 56 = some c56.er := by kernel_rfl
noncomputable def slices_Grow_g (n : Int) : Option ((List Finding)) :=
 Option.bind (
 bif (io.lt n 0) then (
 none
 ) else (
 some ()
 )
 ) fun _ =>
 Option.bind (
 bif (io.lt 0 (io.ar .sub .i64 n (io.ar .sub .i64 0 0))) then (
 Option.bind (mksG (io.ar .sub .i64 n (io.ar .sub .i64 0 0)) ((Finding.mk 0 0 0 (A10.mk 0 0 0 0 0 0 0 0 0 0)) : Finding)) fun l2 =>
 Option.bind (headG l2 0) fun l3 =>
 some l3
 ) else (
 some []
 )
 ) fun s1 =>
 some s1
set_option maxHeartbeats 4000000 in
theorem slices_Grow_O {P : Program} (hP : P = Try.prog) (n : Int) (r : (List Finding)) (h : slices_Grow_g n = some r) : SCall P 56 [] [.d (.val (.slice none 0 0)), vIi64 n] (fun sv own' => sv = .hd 0 ∧ own' = [.row 35 13 (W eFinding r)]) := by
 refine .walkO (hP ▸ c56_ok) fun K hK => ?_
 unfold slices_Grow_g at h
 cbv
 refine .g h (fun (_ : Unit) => [.d (.val (.slice none 0 0)), oi n] ++ rp 25 .top) (fun (_ : Unit) => []) (fun y hm Kn1 hKn1 => ?_) fun t h => ?_
 · have h := hm
   clear hm
   cbv
   refine brkG h ?_ ?_ <;> intro h
   · cbv
     cases h
   · cbv
     obtain rfl := oj h
     refine hKn1 _ _ _ rfl (.nz0 (.mtE [] ?_))
     (cbv; repeat (refine ⟨an_, ?_⟩; cbv))
 cbv
 refine .g h (fun (s1 : (List Finding)) => [.hd 0] ++ rp 26 .top) (fun (s1 : (List Finding)) => [.row 35 13 (W eFinding s1)]) (fun y hm Kn1 hKn1 => ?_) fun t h => ?_
 · have h := hm
   clear hm
   cbv
   refine brkG h ?_ ?_ <;> intro h
   · cbv
     refine .g (e := eFinding) h aw_ (by decide) fun l2 h => ?_
     cbv
     refine .own ?_
     cbv
     refine .g h fun l3 h => ?_
     cbv
     obtain rfl := oj h
     refine hKn1 _ _ _ rfl (.nz (.mtE [1] ?_))
     (cbv; repeat (refine ⟨an_, ?_⟩; cbv))
   · cbv
     obtain rfl := oj h
     refine hKn1 _ _ _ rfl (.nilr 0 35 13 rfl (.nz (.mtE [0] ?_)))
     (cbv; repeat (refine ⟨an_, ?_⟩; cbv))
 obtain ⟨s1, rfl⟩ : ∃ z, z = t := ⟨_, rfl⟩
 cbv
 obtain rfl := oj h
 exact hK _ _ aw_
end Go.SX.Cl
namespace Go.SX.Cl
open Go Go.SX Go.Proofs
set_option maxRecDepth 100000
def c29r0 : List GOp := [
 gv 2 (.mv (.const (.slice none 0 0)))]
def c29r1 : List GOp := [
 gv 3 (.mv (.const (.int .i64 0)))]
def c29r2 : List GOp := [
 gv 9 (.mv (.tmp 0)),
 gv 10 (.len false (.tmp 9)),
 gv 11 (.mv (.const (.int .i64 0)))]
def c29r3 : List GOp := [
 gv 12 (.bin .lss (.tmp 11) (.tmp 10))]
def c29r4 : List GOp := [
 gv 13 (.idxA 1 (.tmp 9) (.tmp 11)),
 gv 14 (.load 1 false (.tmp 13)),
 gv 5 (.mv (.tmp 14))]
def c29r5 : List GOp := [
 gv 15 (.mv (.tmp 3)),
 gv 16 (.mv (.tmp 5)),
 gv 17 (.len false (.tmp 16)),
 gv 18 (.bin .add (.tmp 15) (.tmp 17)),
 gv 3 (.mv (.tmp 18))]
def c29r6 : List GOp := [
 gv 19 (.mv (.tmp 3)),
 gv 20 (.bin .lss (.tmp 19) (.const (.int .i64 0)))]
def c29r7 : List GOp := [
 gv 21 (.nope),
 ⟨none, .nope, none⟩]
def c29r8 : List GOp := [
 gv 22 (.bin .add (.tmp 11) (.const (.int .i64 1))),
 gv 11 (.mv (.tmp 22))]
def c29l9 : DE := .seq (.reg c29r3) (.seq (.cond (.tmp 12) (.skip) (.exit 0)) (.join (.block 1 (.seq (.reg c29r4) (.seq (.reg c29r5) (.seq (.reg c29r6) (.cond (.tmp 20) (.reg c29r7) (.skip)))))) (.reg c29r8)))
def c29r10 : List GOp := [
 gv 23 (.mv (.tmp 3)),
 gv 24 (.call 56 [(.const (.slice none 0 0)), (.tmp 23)]),
 gv 6 (.mv (.tmp 24))]
def c29r11 : List GOp := [
 gv 25 (.mv (.tmp 0)),
 gv 26 (.len false (.tmp 25)),
 gv 27 (.mv (.const (.int .i64 0)))]
def c29r12 : List GOp := [
 gv 28 (.bin .lss (.tmp 27) (.tmp 26))]
def c29r13 : List GOp := [
 gv 29 (.idxA 1 (.tmp 25) (.tmp 27)),
 gv 30 (.load 1 false (.tmp 29)),
 gv 8 (.mv (.tmp 30))]
def c29r14 : List GOp := [
 gv 31 (.mv (.tmp 6)),
 gv 32 (.mv (.tmp 8)),
 gv 33 (.app 35 13 104 (.agg #[oz, oz, oz, oz, oz, oz, oz, oz, oz, oz, oz, oz, oz]) (.tmp 31) (.tmp 32)),
 gv 6 (.mv (.tmp 33))]
def c29r15 : List GOp := [
 gv 34 (.bin .add (.tmp 27) (.const (.int .i64 1))),
 gv 27 (.mv (.tmp 34))]
def c29l16 : DE := .seq (.reg c29r12) (.seq (.cond (.tmp 28) (.skip) (.exit 2)) (.seq (.block 3 (.seq (.reg c29r13) (.reg c29r14))) (.reg c29r15)))
def c29r17 : List GOp := [
 gv 35 (.mv (.tmp 6)),
 gv 2 (.mv (.tmp 35))]
def c29 : EFn := ⟨36, .seq (.reg c29r0) (.seq (.reg c29r1) (.join (.seq (.reg c29r2) (.block 0 (.loop c29l9))) (.seq (.reg c29r10) (.join (.seq (.reg c29r11) (.block 2 (.loop c29l16))) (.seq (.reg c29r17) (.ret)))))), [.tmp 2]⟩
theorem c29_ok : compF Try.prog 29 = some c29.er := by kernel_rfl
noncomputable def slices_Concat_l2 (slices : (List (List Finding))) : (Int × Int) → Option ((Int × Int) ⊕ (Int))
 | (size2, v3) =>
 bif (io.lt v3 (io.len (W eLFinding slices))) then (
 Option.bind (
 Option.bind (idxG slices v3) fun x5 =>
 bif (io.lt (io.ar .add .i64 size2 (io.len (W eFinding x5))) 0) then (
 none
 ) else (
 some (io.ar .add .i64 size2 (io.len (W eFinding x5)))
 )
 ) fun size4 =>
 some (.inl (size4, (io.ar .add .i64 v3 1)))
 ) else (
 some (.inr size2)
 )
noncomputable def slices_Concat_l4 (slices : (List (List Finding))) : ((List Finding) × Int) → Option (((List Finding) × Int) ⊕ ((List Finding)))
 | (newslice8, v9) =>
 bif (io.lt v9 (io.len (W eLFinding slices))) then (
 Option.bind (idxG slices v9) fun x10 =>
 Option.bind (appG newslice8 x10) fun newslice11 =>
 some (.inl (newslice11, (io.ar .add .i64 v9 1)))
 ) else (
 some (.inr newslice8)
 )
noncomputable def slices_Concat_g (slices : (List (List Finding))) : Option ((List Finding)) :=
 Option.bind (
 whileG (slices_Concat_l2 slices) (0, 0)
 ) fun size1 =>
 Option.bind (slices_Grow_g size1) fun l6 =>
 Option.bind (
 whileG (slices_Concat_l4 slices) (l6, 0)
 ) fun newslice7 =>
 some newslice7
set_option maxHeartbeats 4000000 in
theorem slices_Concat_R {P : Program} (hP : P = Try.prog) (slices : (List (List Finding))) (r : (List Finding)) (h : slices_Concat_g slices = some r) : Fn1 P 29 [vLLFinding slices] (vLFinding r) := by
 refine .walkE (hP ▸ c29_ok) fun K hK => ?_
 unfold slices_Concat_g at h
 cbv
 refine .g h (fun (size1 : Int) => [.d (.sl (W eLFinding slices)), .top, .top, oi size1] ++ rp 32 .top) (fun (size1 : Int) => []) (fun y hm Kn1 hKn1 => ?_) fun t h => ?_
 · have h := hm
   clear hm
   cbv
   refine .g h (fun ((size2, v3) : Int × Int) => [.d (.sl (W eLFinding slices)), .top, .top, oi size2] ++ rp 5 .top ++ [.d (.sl (W eLFinding slices)), oi (io.len (W eLFinding slices)), oi v3] ++ rp 24 .top) (fun ((size2, v3) : Int × Int) => []) (.nz (.mtE [] ?_)) fun s x h hr2 Kn2 hKn2 => ?_
   · (cbv; repeat (refine ⟨an_, ?_⟩; cbv))
   unfold slices_Concat_l2 at h
   obtain ⟨size2, v3⟩ := s
   cbv
   refine brkG h ?_ ?_ <;> intro h
   · cbv
     refine .g h (fun (size4 : Int) => [.d (.sl (W eLFinding slices)), .top, .top, oi size4] ++ rp 5 .top ++ [.d (.sl (W eLFinding slices)), oi (io.len (W eLFinding slices)), oi v3] ++ rp 24 .top) (fun (size4 : Int) => []) (fun y hm Kn3 hKn3 => ?_) fun t h => ?_
     · have h := hm
       clear hm
       cbv
       refine .g h (fun _ => rfl) fun x5 h => ?_
       cbv
       refine brkG h ?_ ?_ <;> intro h
       · cbv
         cases h
       · cbv
         obtain rfl := oj h
         refine hKn3 _ _ _ rfl (.nz (.mtE [] ?_))
         (cbv; repeat (refine ⟨an_, ?_⟩; cbv))
     obtain ⟨size4, rfl⟩ : ∃ z, z = t := ⟨_, rfl⟩
     cbv
     obtain rfl := oj h
     refine hKn2 _ _ _ rfl (.nz (.mtE [] ?_))
     (cbv; repeat (refine ⟨an_, ?_⟩; cbv))
   · cbv
     obtain rfl := oj h
     obtain rfl := hr2 _ rfl
     refine hKn1 _ _ _ rfl (.nz (.mtE [] ?_))
     (cbv; repeat (refine ⟨an_, ?_⟩; cbv))
 obtain ⟨size1, rfl⟩ : ∃ z, z = t := ⟨_, rfl⟩
 cbv
 obtain ⟨l6, hm, h⟩ := Option.bind_eq_some_iff.1 h
 refine .emb [] (slices_Grow_O hP _ _ hm) (by (cbv; repeat (refine ⟨an_, ?_⟩; cbv))) fun sv0 own0 hq _ => ?_
 obtain ⟨rfl, rfl⟩ := hq
 clear hm
 cbv
 refine .g h (fun (newslice7 : (List Finding)) => rp 6 .top ++ [.hd 0] ++ rp 29 .top) (fun (newslice7 : (List Finding)) => [.row 35 13 (W eFinding newslice7)]) (fun y hm Kn1 hKn1 => ?_) fun t h => ?_
 · have h := hm
   clear hm
   cbv
   refine .g h (fun ((newslice8, v9) : (List Finding) × Int) => rp 6 .top ++ [.hd 0] ++ rp 18 .top ++ [.d (.sl (W eLFinding slices)), oi (io.len (W eLFinding slices)), oi v9] ++ rp 8 .top) (fun ((newslice8, v9) : (List Finding) × Int) => [.row 35 13 (W eFinding newslice8)]) (.nz (.mtE [0] ?_)) fun s x h hr2 Kn2 hKn2 => ?_
   · (cbv; repeat (refine ⟨an_, ?_⟩; cbv))
   unfold slices_Concat_l4 at h
   obtain ⟨newslice8, v9⟩ := s
   cbv
   refine brkG h ?_ ?_ <;> intro h
   · cbv
     refine .g h (fun _ => rfl) fun x10 h => ?_
     cbv
     refine .g h rfl (fun _ => rfl) (by decide) fun newslice11 h => ?_
     cbv
     obtain rfl := oj h
     refine hKn2 _ _ _ rfl (.nz (.mtE [1] ?_))
     (cbv; repeat (refine ⟨an_, ?_⟩; cbv))
   · cbv
     obtain rfl := oj h
     obtain rfl := hr2 _ rfl
     refine hKn1 _ _ _ rfl (.nz (.mtE [0] ?_))
     (cbv; repeat (refine ⟨an_, ?_⟩; cbv))
 obtain ⟨newslice7, rfl⟩ : ∃ z, z = t := ⟨_, rfl⟩
 cbv
 obtain rfl := oj h
 exact hK _ _ aw_
end Go.SX.Cl
namespace Go.SX.Cl
open Go Go.SX Go.Proofs
set_option maxRecDepth 100000
def c54r0 : List GOp := [
 gv 2 (.mv (.const (.slice none 0 0)))]
def c54r1 : List GOp := [
 gv 3 (.mv (.tmp 0)),
 gv 4 (.snl false (.tmp 3))]
def c54r2 : List GOp := [
 gv 2 (.mv (.const (.slice none 0 0)))]
def c54r3 : List GOp := [
 gv 5 (.bslice 41 8 0 (.agg #[oz, (.string ⟨#[]⟩), (.slice none 0 0), oz, oz, oz, oz, oz]) []),
 gv 6 (.mv (.tmp 0)),
 gv 7 (.app 41 8 88 (.agg #[oz, (.string ⟨#[]⟩), (.slice none 0 0), oz, oz, oz, oz, oz]) (.tmp 5) (.tmp 6)),
 gv 2 (.mv (.tmp 7))]
def c54 : EFn := ⟨8, .seq (.reg c54r0) (.seq (.seq (.reg c54r1) (.cond (.tmp 4) (.seq (.reg c54r2) (.ret)) (.skip))) (.seq (.reg c54r3) (.ret))), [.tmp 2]⟩
theorem c54_ok : compF Try.prog 54 = some c54.er := by kernel_rfl
noncomputable def slices_Clone_g (s : (List Rule)) : Option ((List Rule)) :=
 nilQ s fun b1 =>
 bif b1 then (
 some []
 ) else (
 Option.bind (some ([] : List Rule)) fun l2 =>
 Option.bind (appG l2 s) fun l3 =>
 some l3
 )
set_option maxHeartbeats 4000000 in
theorem slices_Clone_O {P : Program} (hP : P = Try.prog) (s : (List Rule)) (r : (List Rule)) (h : slices_Clone_g s = some r) : SCall P 54 [] [vLRule s] (fun sv own' => sv = .hd 0 ∧ own' = [.row 41 8 (W eRule r)]) := by
 refine .walkO (hP ▸ c54_ok) fun K hK => ?_
 unfold slices_Clone_g at h
 cbv
 refine .g h fun b1 h => ?_
 cbv
 refine brkG h ?_ ?_ <;> intro h
 · cbv
   obtain rfl := oj h
   exact hK _ _ aw_
 · cbv
   refine .g (e := eRule) h (W_nil' _) fun l2 h => ?_
   cbv
   refine .g h rfl (fun _ => rfl) (by decide) fun l3 h => ?_
   cbv
   obtain rfl := oj h
   exact hK _ _ aw_
end Go.SX.Cl
