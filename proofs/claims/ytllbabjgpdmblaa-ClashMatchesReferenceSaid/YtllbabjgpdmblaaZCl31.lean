/- Parts of the proof. -/
import Derived.Test.YtllbabjgpdmblaaZClT
import Derived.Test.YtllbabjgpdmblaaZCl48
set_option linter.unusedSimpArgs false
set_option linter.unusedVariables false
namespace Go.SX.Cl
open Go Go.SX Go.Proofs
set_option maxRecDepth 100000
def c31r0 : List GOp := [
 gv 1 (.box 24 (.tmp 0)),
 gv 2 (.mv (.const (.slice none 0 0)))]
def c31r1 : List GOp := [
 gv 10 (.build (.agg #[oz, oz, oz, oz, oz, oz, oz, oz, oz, oz]) []),
 gv 11 (.bslice 32 10 1 (.agg #[oz, oz, oz, oz, oz, oz, oz, oz, oz, oz]) [(0, (.tmp 10))]),
 gv 3 (.mv (.tmp 11))]
def c31r2 : List GOp := [
 gv 4 (.mv (.const (.int .i64 0)))]
def c31r3 : List GOp := [
 gv 12 (.mv (.tmp 4)),
 gv 13 (.bin .lss (.tmp 12) (.const (.int .i64 10)))]
def c31r4 : List GOp := [
 gv 16 (.load 1 true (.tmp 1)),
 gv 17 (.mv (.tmp 4)),
 gv 18 (.call 48 [(.tmp 16), (.tmp 17)]),
 gv 5 (.mv (.tmp 18))]
def c31r5 : List GOp := [
 gv 6 (.mv (.const (.slice none 0 0)))]
def c31r6 : List GOp := [
 gv 7 (.mv (.const (.int .i64 0)))]
def c31r7 : List GOp := [
 gv 19 (.mv (.tmp 7)),
 gv 20 (.mv (.tmp 3)),
 gv 21 (.len false (.tmp 20)),
 gv 22 (.bin .lss (.tmp 19) (.tmp 21))]
def c31r8 : List GOp := [
 gv 8 (.mv (.const (.int .i64 0)))]
def c31r9 : List GOp := [
 gv 25 (.mv (.tmp 8)),
 gv 26 (.mv (.tmp 5)),
 gv 27 (.len false (.tmp 26)),
 gv 28 (.bin .lss (.tmp 25) (.tmp 27))]
def c31r10 : List GOp := [
 gv 31 (.mv (.tmp 3)),
 gv 32 (.mv (.tmp 7)),
 gv 33 (.idxA 10 (.tmp 31) (.tmp 32)),
 gv 34 (.load 10 true (.tmp 33)),
 gv 9 (.alloc 32 (.agg #[oz, oz, oz, oz, oz, oz, oz, oz, oz, oz])),
 ⟨none, .store 10 (.tmp 9) (.tmp 34), none⟩]
def c31r11 : List GOp := [
 gv 35 (.mv (.tmp 4)),
 gv 36 (.mv (.tmp 5)),
 gv 37 (.mv (.tmp 8)),
 gv 38 (.idxA 1 (.tmp 36) (.tmp 37)),
 gv 39 (.load 1 false (.tmp 38)),
 gv 40 (.idxP 10 1 (.tmp 9) (.tmp 35)),
 ⟨none, .store 1 (.tmp 40) (.tmp 39), none⟩]
def c31r12 : List GOp := [
 gv 41 (.mv (.tmp 6)),
 gv 42 (.load 10 true (.tmp 9)),
 gv 43 (.bslice 32 10 1 (.agg #[oz, oz, oz, oz, oz, oz, oz, oz, oz, oz]) [(0, (.tmp 42))]),
 gv 44 (.app 32 10 80 (.agg #[oz, oz, oz, oz, oz, oz, oz, oz, oz, oz]) (.tmp 41) (.tmp 43)),
 gv 6 (.mv (.tmp 44))]
def c31r13 : List GOp := [
 gv 29 (.mv (.tmp 8)),
 gv 30 (.bin .add (.tmp 29) (.const (.int .i64 1))),
 gv 8 (.mv (.tmp 30))]
def c31l14 : DE := .seq (.seq (.reg c31r9) (.cond (.tmp 28) (.skip) (.exit 4))) (.seq (.block 5 (.seq (.reg c31r10) (.join (.reg c31r11) (.reg c31r12)))) (.reg c31r13))
def c31r15 : List GOp := [
 gv 23 (.mv (.tmp 7)),
 gv 24 (.bin .add (.tmp 23) (.const (.int .i64 1))),
 gv 7 (.mv (.tmp 24))]
def c31l16 : DE := .seq (.seq (.reg c31r7) (.cond (.tmp 22) (.skip) (.exit 2))) (.join (.block 3 (.seq (.reg c31r8) (.block 4 (.loop c31l14)))) (.reg c31r15))
def c31r17 : List GOp := [
 gv 45 (.mv (.tmp 6)),
 gv 3 (.mv (.tmp 45))]
def c31r18 : List GOp := [
 gv 14 (.mv (.tmp 4)),
 gv 15 (.bin .add (.tmp 14) (.const (.int .i64 1))),
 gv 4 (.mv (.tmp 15))]
def c31l19 : DE := .seq (.seq (.reg c31r3) (.cond (.tmp 13) (.skip) (.exit 0))) (.join (.block 1 (.seq (.reg c31r4) (.seq (.reg c31r5) (.join (.seq (.reg c31r6) (.block 2 (.loop c31l16))) (.reg c31r17))))) (.reg c31r18))
def c31r20 : List GOp := [
 gv 46 (.mv (.tmp 3)),
 gv 2 (.mv (.tmp 46))]
def c31 : EFn := ⟨47, .seq (.reg c31r0) (.seq (.reg c31r1) (.join (.seq (.reg c31r2) (.block 0 (.loop c31l19))) (.seq (.reg c31r20) (.ret)))), [.tmp 2]⟩
theorem c31_ok : compF Try.prog 31 = some c31.er := by kernel_rfl
noncomputable def ref16_Facts_l170 (l6 : (List Int)) (out3 : (List (A10 Int))) (a4 : Int) : ((List (A10 Int)) × Int × Int) → Option (((List (A10 Int)) × Int × Int) ⊕ ((List (A10 Int)) × Int))
 | (next12, i13, k14) =>
 bif (io.lt k14 (io.len (W eIi64 l6))) then (
 Option.bind (rixG out3 i13) fun i15 =>
 Option.bind (out3[i15]?) fun v16 =>
 Option.bind (
 Option.bind (idxG l6 k14) fun x19 =>
 Option.bind (pixG 10 a4) fun i20 =>
 some (i13, (v16.put i20 x19))
 ) fun (i17, f18) =>
 Option.bind (some [f18]) fun l21 =>
 Option.bind (appG next12 l21) fun next22 =>
 some (.inl (next22, i17, (io.ar .add .i64 k14 1)))
 ) else (
 some (.inr (next12, i13))
 )
noncomputable def ref16_Facts_l168 (out3 : (List (A10 Int))) (l6 : (List Int)) (a4 : Int) : ((List (A10 Int)) × Int) → Option (((List (A10 Int)) × Int) ⊕ ((List (A10 Int))))
 | (next8, i9) =>
 bif (io.lt i9 (io.len (W eA10Ii64 out3))) then (
 Option.bind (
 whileG (ref16_Facts_l170 l6 out3 a4) (next8, i9, 0)
 ) fun (next10, i11) =>
 some (.inl (next10, (io.ar .add .i64 i11 1)))
 ) else (
 some (.inr next8)
 )
noncomputable def ref16_Facts_l142 (p : Policy) : ((List (A10 Int)) × Int) → Option (((List (A10 Int)) × Int) ⊕ ((List (A10 Int))))
 | (out3, a4) =>
 bif (io.lt a4 10) then (
 Option.bind (
 Option.bind (ref16_starts_g p a4) fun l6 =>
 Option.bind (
 whileG (ref16_Facts_l168 out3 l6 a4) ([], 0)
 ) fun next7 =>
 some next7
 ) fun out5 =>
 some (.inl (out5, (io.ar .add .i64 a4 1)))
 ) else (
 some (.inr out3)
 )
noncomputable def ref16_Facts_g (p : Policy) : Option ((List (A10 Int))) :=
 Option.bind (some [(A10.mk 0 0 0 0 0 0 0 0 0 0)]) fun out1 =>
 Option.bind (
 whileG (ref16_Facts_l142 p) (out1, 0)
 ) fun out2 =>
 some out2
set_option maxHeartbeats 4000000 in
theorem ref16_Facts_R {P : Program} (hP : P = Try.prog) (p : Policy) (r : (List (A10 Int))) (h : ref16_Facts_g p = some r) : Fn1 P 31 [vPolicy p] (vLA10Ii64 r) := by
 refine .walkE (hP ▸ c31_ok) fun K hK => ?_
 unfold ref16_Facts_g at h
 cbv
 refine .g (e := eA10Ii64) h (W_cons aw_ (W_nil' _)) fun out1 h => ?_
 cbv
 refine .g h (fun (out2 : (List (A10 Int))) => rp 3 .top ++ [.hd 0] ++ rp 43 .top) (fun (out2 : (List (A10 Int))) => [.row 32 10 (W eA10Ii64 out2)]) (fun y hm Kn1 hKn1 => ?_) fun t h => ?_
 · have h := hm
   clear hm
   cbv
   refine .g h (fun ((out3, a4) : (List (A10 Int)) × Int) => [.top, .ptr 0 0, .top, .hd 1, oi a4] ++ rp 42 .top) (fun ((out3, a4) : (List (A10 Int)) × Int) => [.cells [.d (.sl (W eRule p.Rules))] 24, .row 32 10 (W eA10Ii64 out3)]) (.nz (.mtE [0, 1] ?_)) fun s x h hr2 Kn2 hKn2 => ?_
   · (cbv; repeat (refine ⟨an_, ?_⟩; cbv))
   unfold ref16_Facts_l142 at h
   obtain ⟨out3, a4⟩ := s
   cbv
   refine brkG h ?_ ?_ <;> intro h
   · cbv
     refine .g h (fun (out5 : (List (A10 Int))) => [.top, .ptr 0 0, .top, .hd 1, oi a4] ++ rp 42 .top) (fun (out5 : (List (A10 Int))) => [.cells [.d (.sl (W eRule p.Rules))] 24, .row 32 10 (W eA10Ii64 out5)]) (fun y hm Kn3 hKn3 => ?_) fun t h => ?_
     · have h := hm
       clear hm
       cbv
       refine .g h (fun v hv => ref16_starts_R hP _ _ v hv) aw_ rfl (fun _ => rfl) fun l6 h => ?_
       cbv
       refine .g h (fun (next7 : (List (A10 Int))) => [.top, .ptr 0 0, .top, .top, oi a4, .top, .hd 1] ++ rp 40 .top) (fun (next7 : (List (A10 Int))) => [.cells [.d (.sl (W eRule p.Rules))] 24, .row 32 10 (W eA10Ii64 next7)]) (fun y hm Kn4 hKn4 => ?_) fun t h => ?_
       · have h := hm
         clear hm
         cbv
         refine .g h (fun ((next8, i9) : (List (A10 Int)) × Int) => [.top, .ptr 0 0, .top, .hd 1, oi a4, .d (.sl (W eIi64 l6)), .hd 2, oi i9] ++ rp 39 .top) (fun ((next8, i9) : (List (A10 Int)) × Int) => [.cells [.d (.sl (W eRule p.Rules))] 24, .row 32 10 (W eA10Ii64 out3), .row 32 10 (W eA10Ii64 next8)]) (.nilr 6 32 10 rfl (.nz (.mtE [0, 1, 2] ?_))) fun s x h hr5 Kn5 hKn5 => ?_
         · (cbv; repeat (refine ⟨an_, ?_⟩; cbv))
         unfold ref16_Facts_l168 at h
         obtain ⟨next8, i9⟩ := s
         cbv
         refine brkG h ?_ ?_ <;> intro h
         · cbv
           refine .g h (fun ((next10, i11) : (List (A10 Int)) × Int) => [.top, .ptr 0 0, .top, .hd 1, oi a4, .d (.sl (W eIi64 l6)), .hd 2, oi i11] ++ rp 39 .top) (fun ((next10, i11) : (List (A10 Int)) × Int) => [.cells [.d (.sl (W eRule p.Rules))] 24, .row 32 10 (W eA10Ii64 out3), .row 32 10 (W eA10Ii64 next10)]) (fun y hm Kn6 hKn6 => ?_) fun t h => ?_
           · have h := hm
             clear hm
             cbv
             refine .g h (fun ((next12, i13, k14) : (List (A10 Int)) × Int × Int) => [.top, .ptr 0 0, .top, .hd 1, oi a4, .d (.sl (W eIi64 l6)), .hd 2, oi i13, oi k14] ++ rp 38 .top) (fun ((next12, i13, k14) : (List (A10 Int)) × Int × Int) => [.cells [.d (.sl (W eRule p.Rules))] 24, .row 32 10 (W eA10Ii64 out3), .row 32 10 (W eA10Ii64 next12)]) (.nz (.mtE [0, 1, 2] ?_)) fun s x h hr7 Kn7 hKn7 => ?_
             · (cbv; repeat (refine ⟨an_, ?_⟩; cbv))
             unfold ref16_Facts_l170 at h
             obtain ⟨next12, i13, k14⟩ := s
             cbv
             refine brkG h ?_ ?_ <;> intro h
             · cbv
               refine .g h fun i15 h => ?_
               cbv
               refine .g h fun v16 h => ?_
               cbv
               refine .g h (fun ((i17, f18) : Int × (A10 Int)) => [.top, .ptr 0 0, .top, .hd 1, oi a4, .d (.sl (W eIi64 l6)), .hd 2, oi i17, oi k14, .ptr 3 0] ++ rp 37 .top) (fun ((i17, f18) : Int × (A10 Int)) => [.cells [.d (.sl (W eRule p.Rules))] 24, .row 32 10 (W eA10Ii64 out3), .row 32 10 (W eA10Ii64 next12), .cells (ca f18) 32]) (fun y hm Kn8 hKn8 => ?_) fun t h => ?_
               · have h := hm
                 clear hm
                 cbv
                 refine .g h (fun _ => rfl) fun x19 h => ?_
                 cbv
                 refine .c10 h ?_ ?_ ?_ ?_ ?_ ?_ ?_ ?_ ?_ ?_ <;> (
                   intro hni20 h
                   cbv
                   obtain rfl := oj h
                   refine hKn8 _ _ _ rfl (.nz (.mtE [0, 1, 2, 3] ?_))
                   (cbv; repeat (refine ⟨an_, ?_⟩; cbv))
                   )
               obtain ⟨i17, f18⟩ := t
               cbv
               refine .g (e := eA10Ii64) h (W_cons aw_ (W_nil' _)) fun l21 h => ?_
               cbv
               refine .g h rfl (fun _ => rfl) (by decide) fun next22 h => ?_
               cbv
               obtain rfl := oj h
               refine hKn7 _ _ _ rfl (.nz (.mtE [0, 1, 5] ?_))
               (cbv; repeat (refine ⟨an_, ?_⟩; cbv))
             · cbv
               obtain rfl := oj h
               obtain rfl := hr7 _ rfl
               refine hKn6 _ _ _ rfl (.nz (.mtE [0, 1, 2] ?_))
               (cbv; repeat (refine ⟨an_, ?_⟩; cbv))
           obtain ⟨next10, i11⟩ := t
           cbv
           obtain rfl := oj h
           refine hKn5 _ _ _ rfl (.nz (.mtE [0, 1, 2] ?_))
           (cbv; repeat (refine ⟨an_, ?_⟩; cbv))
         · cbv
           obtain rfl := oj h
           obtain rfl := hr5 _ rfl
           refine hKn4 _ _ _ rfl (.nz (.mtE [0, 2] ?_))
           (cbv; repeat (refine ⟨an_, ?_⟩; cbv))
       obtain ⟨next7, rfl⟩ : ∃ z, z = t := ⟨_, rfl⟩
       cbv
       obtain rfl := oj h
       refine hKn3 _ _ _ rfl (.nz (.mtE [0, 1] ?_))
       (cbv; repeat (refine ⟨an_, ?_⟩; cbv))
     obtain ⟨out5, rfl⟩ : ∃ z, z = t := ⟨_, rfl⟩
     cbv
     obtain rfl := oj h
     refine hKn2 _ _ _ rfl (.nz (.mtE [0, 1] ?_))
     (cbv; repeat (refine ⟨an_, ?_⟩; cbv))
   · cbv
     obtain rfl := oj h
     obtain rfl := hr2 _ rfl
     refine hKn1 _ _ _ rfl (.nz (.mtE [1] ?_))
     (cbv; repeat (refine ⟨an_, ?_⟩; cbv))
 obtain ⟨out2, rfl⟩ : ∃ z, z = t := ⟨_, rfl⟩
 cbv
 obtain rfl := oj h
 exact hK _ _ aw_
end Go.SX.Cl
namespace Go.SX.Cl
open Go Go.SX Go.Proofs
set_option maxRecDepth 100000
def c17r0 : List GOp := [
 gv 2 (.box 45 (.tmp 0)),
 gv 3 (.box 45 (.tmp 1)),
 gv 4 (.mv (.const (.bool false)))]
def c17r1 : List GOp := [
 gv 5 (.fadd 15 (.tmp 3)),
 gv 6 (.load 1 false (.tmp 5)),
 gv 7 (.fadd 15 (.tmp 2)),
 ⟨none, .store 1 (.tmp 7) (.tmp 6), none⟩]
def c17r2 : List GOp := [
 gv 8 (.load 16 true (.tmp 2)),
 gv 9 (.load 16 true (.tmp 3)),
 gv 10 (.beq false [.bool, .bool, .bool, .int, .int, .int, .int, .int, .int, .int, .int, .int, .int, .int, .int, .int] (.tmp 8) (.tmp 9)),
 gv 4 (.mv (.tmp 10))]
def c17 : EFn := ⟨11, .seq (.reg c17r0) (.seq (.reg c17r1) (.seq (.reg c17r2) (.ret))), [.tmp 4]⟩
theorem c17_ok : compF Try.prog 17 = some c17.er := by kernel_rfl
noncomputable def ref13_Like_g (a : Decision) (b : Decision) : Option (Bool) :=
 some (qDecision (Decision.mk a.Allowed a.Together a.Single a.Limit a.Price a.Fee a.Tax a.Cap a.Share a.Refund b.By) b)
set_option maxHeartbeats 4000000 in
theorem ref13_Like_R {P : Program} (hP : P = Try.prog) (a : Decision) (b : Decision) (r : Bool) (h : ref13_Like_g a b = some r) : Fn1 P 17 [vDecision a, vDecision b] (vB r) := by
 refine .walkE (hP ▸ c17_ok) fun K hK => ?_
 unfold ref13_Like_g at h
 cbv
 obtain rfl := oj h
 exact hK _ _ aw_
end Go.SX.Cl
namespace Go.SX.Cl
open Go Go.SX Go.Proofs
set_option maxRecDepth 100000
def c19r0 : List GOp := [
 gv 2 (.box 24 (.tmp 0)),
 gv 4 (.alloc 24 (.agg #[(.slice none 0 0)]))]
def c19r1 : List GOp := [
 gv 5 (.bslice 41 8 0 (.agg #[oz, (.string ⟨#[]⟩), (.slice none 0 0), oz, oz, oz, oz, oz]) []),
 gv 6 (.fadd 0 (.tmp 2)),
 gv 7 (.load 1 false (.tmp 6)),
 gv 8 (.mv (.tmp 1)),
 gv 9 (.slc 8 (.tmp 7) none (some (.tmp 8))),
 gv 10 (.app 41 8 88 (.agg #[oz, (.string ⟨#[]⟩), (.slice none 0 0), oz, oz, oz, oz, oz]) (.tmp 5) (.tmp 9)),
 gv 11 (.fadd 0 (.tmp 2)),
 gv 12 (.load 1 false (.tmp 11)),
 gv 13 (.mv (.tmp 1)),
 gv 14 (.bin .add (.tmp 13) (.const (.int .i64 1))),
 gv 15 (.slc 8 (.tmp 12) (some (.tmp 14)) none),
 gv 16 (.app 41 8 88 (.agg #[oz, (.string ⟨#[]⟩), (.slice none 0 0), oz, oz, oz, oz, oz]) (.tmp 10) (.tmp 15)),
 gv 17 (.build (.agg #[(.slice none 0 0)]) [((0, 1), (.tmp 16))])]
def c19r1z : GOp := ⟨none, .store 1 (.tmp 4) (.tmp 17), none⟩
def c19 : EFn := ⟨18, .seq (.reg c19r0) (.seq (.hyl true true 11 c19r1 c19r1z) (.ret)), [.cell 4 1 true]⟩
theorem c19_ok : compF Try.prog 19 = some c19.er := by kernel_rfl
noncomputable def ref16_Without_g (p : Policy) (a : Int) : Option (Policy) :=
 Option.bind (some ([] : List Rule)) fun l1 =>
 Option.bind (subG p.Rules 0 a) fun l2 =>
 Option.bind (appG l1 l2) fun l3 =>
 Option.bind (subG p.Rules (io.ar .add .i64 a 1) (io.len (W eRule p.Rules))) fun l4 =>
 Option.bind (appG l3 l4) fun l5 =>
 some (Policy.mk l5)
set_option maxHeartbeats 4000000 in
theorem ref16_Without_R {P : Program} (hP : P = Try.prog) (p : Policy) (a : Int) (r : Policy) (h : ref16_Without_g p a = some r) : Fn1 P 19 [vPolicy p, vIi64 a] (vPolicy r) := by
 refine .walkE (hP ▸ c19_ok) fun K hK => ?_
 unfold ref16_Without_g at h
 cbv
 refine .g (e := eRule) h (W_nil' _) fun l1 h => ?_
 cbv
 refine .g h (fun _ => rfl) fun l2 h => ?_
 cbv
 refine .g h rfl (fun _ => rfl) (by decide) fun l3 h => ?_
 cbv
 refine .g h (fun _ => rfl) fun l4 h => ?_
 cbv
 refine .g h rfl (fun _ => rfl) (by decide) fun l5 h => ?_
 cbv
 obtain rfl := oj h
 exact hK _ _ aw_
end Go.SX.Cl
namespace Go.SX.Cl
open Go Go.SX Go.Proofs
set_option maxRecDepth 100000
def c60r0 : List GOp := [
 gv 2 (.box 41 (.tmp 0)),
 gv 3 (.box 32 (.tmp 1)),
 gv 4 (.mv (.const (.bool false)))]
def c60r1 : List GOp := [
 gv 5 (.mv (.const (.int .i64 0)))]
def c60r2 : List GOp := [
 gv 8 (.mv (.tmp 5)),
 gv 9 (.fadd 2 (.tmp 2)),
 gv 10 (.load 1 false (.tmp 9)),
 gv 11 (.len false (.tmp 10)),
 gv 12 (.bin .lss (.tmp 8) (.tmp 11))]
def c60r3 : List GOp := [
 gv 6 (.mv (.const (.bool true)))]
def c60r4 : List GOp := [
 gv 7 (.mv (.const (.int .i64 0)))]
def c60r5 : List GOp := [
 gv 15 (.mv (.tmp 7)),
 gv 16 (.bin .lss (.tmp 15) (.const (.int .i64 10)))]
def c60r6 : List GOp := [
 gv 19 (.mv (.tmp 6)),
 gv 20 (.mv (.tmp 19)),
 gw 21 20 true (.mv (.tmp 7)),
 gw 22 20 true (.idxP 10 1 (.tmp 3) (.tmp 21)),
 gw 23 20 true (.load 1 false (.tmp 22)),
 gw 24 20 true (.fadd 2 (.tmp 2)),
 gw 25 20 true (.load 1 false (.tmp 24)),
 gw 26 20 true (.mv (.tmp 5)),
 gw 27 20 true (.mv (.tmp 7)),
 gw 28 20 true (.idxA 20 (.tmp 25) (.tmp 26)),
 gw 29 20 true (.idxP 10 2 (.tmp 28) (.tmp 27)),
 gw 30 20 true (.fadd 0 (.tmp 29)),
 gw 31 20 true (.load 1 false (.tmp 30)),
 gw 32 20 true (.bin .geq (.tmp 23) (.tmp 31)),
 gv 33 (.pick (.tmp 20) (.tmp 32) (.const (.bool false))),
 gv 34 (.mv (.tmp 33)),
 gw 35 34 true (.mv (.tmp 7)),
 gw 36 34 true (.idxP 10 1 (.tmp 3) (.tmp 35)),
 gw 37 34 true (.load 1 false (.tmp 36)),
 gw 38 34 true (.fadd 2 (.tmp 2)),
 gw 39 34 true (.load 1 false (.tmp 38)),
 gw 40 34 true (.mv (.tmp 5)),
 gw 41 34 true (.mv (.tmp 7)),
 gw 42 34 true (.idxA 20 (.tmp 39) (.tmp 40)),
 gw 43 34 true (.idxP 10 2 (.tmp 42) (.tmp 41)),
 gw 44 34 true (.fadd 1 (.tmp 43)),
 gw 45 34 true (.load 1 false (.tmp 44)),
 gw 46 34 true (.bin .leq (.tmp 37) (.tmp 45)),
 gv 47 (.pick (.tmp 34) (.tmp 46) (.const (.bool false))),
 gv 6 (.mv (.tmp 47))]
def c60r7 : List GOp := [
 gv 17 (.mv (.tmp 7)),
 gv 18 (.bin .add (.tmp 17) (.const (.int .i64 1))),
 gv 7 (.mv (.tmp 18))]
def c60l8 : DE := .seq (.seq (.reg c60r5) (.cond (.tmp 16) (.skip) (.exit 2))) (.join (.block 3 (.par true true true 27 c60r6)) (.reg c60r7))
def c60r9 : List GOp := [
 gv 48 (.mv (.tmp 6))]
def c60r10 : List GOp := [
 gv 4 (.mv (.const (.bool true)))]
def c60r11 : List GOp := [
 gv 13 (.mv (.tmp 5)),
 gv 14 (.bin .add (.tmp 13) (.const (.int .i64 1))),
 gv 5 (.mv (.tmp 14))]
def c60l12 : DE := .seq (.seq (.reg c60r2) (.cond (.tmp 12) (.skip) (.exit 0))) (.join (.block 1 (.seq (.reg c60r3) (.join (.seq (.reg c60r4) (.block 2 (.loop c60l8))) (.seq (.reg c60r9) (.cond (.tmp 48) (.seq (.reg c60r10) (.ret)) (.skip)))))) (.reg c60r11))
def c60r13 : List GOp := [
 gv 4 (.mv (.const (.bool false)))]
def c60 : EFn := ⟨49, .seq (.reg c60r0) (.join (.seq (.reg c60r1) (.block 0 (.loop c60l12))) (.seq (.reg c60r13) (.ret))), [.tmp 4]⟩
theorem c60_ok : compF Try.prog 60 = some c60.er := by kernel_rfl
noncomputable def ref13_Holds_l26 (r_ : Rule) (i1 : Int) (f : (A10 Int)) : (Bool × Int) → Option ((Bool × Int) ⊕ (Bool))
 | (in3, k4) =>
 bif (io.lt k4 10) then (
 Option.bind (
 bif in3 then (
 Option.bind (pixG 10 k4) fun i6 =>
 Option.bind (idxG r_.Zones i1) fun x7 =>
 bif (io.le (x7.get i6).Lo (f.get i6)) then (
 Option.bind (idxG r_.Zones i1) fun x8 =>
 some (io.le (f.get i6) (x8.get i6).Hi)
 ) else (
 some false
 )
 ) else (
 some false
 )
 ) fun in5 =>
 some (.inl (in5, (io.ar .add .i64 k4 1)))
 ) else (
 some (.inr in3)
 )
noncomputable def ref13_Holds_l22 (r_ : Rule) (f : (A10 Int)) : Int → Option ((Int) ⊕ ((Unit) ⊕ (Bool)))
 | i1 =>
 bif (io.lt i1 (io.len (W eA10Range r_.Zones))) then (
 orR (
 Option.bind (
 whileG (ref13_Holds_l26 r_ i1 f) (true, 0)
 ) fun in2 =>
 bif in2 then (
 some (.inr (.inr (.inr true)))
 ) else (
 some (.inl ())
 )
 ) fun _ =>
 some (.inl (io.ar .add .i64 i1 1))
 ) else (
 some (.inr (.inl ()))
 )
noncomputable def ref13_Holds_g (r_ : Rule) (f : (A10 Int)) : Option (Bool) :=
 orR (
 whileG (ref13_Holds_l22 r_ f) 0
 ) fun _ =>
 some false
set_option maxHeartbeats 4000000 in
theorem ref13_Holds_R {P : Program} (hP : P = Try.prog) (r_ : Rule) (f : (A10 Int)) (r : Bool) (h : ref13_Holds_g r_ f = some r) : Fn1 P 60 [vRule r_, vA10Ii64 f] (vB r) := by
 refine .walkE (hP ▸ c60_ok) fun K hK => ?_
 unfold ref13_Holds_g at h
 cbv
 refine .ga h (fun (_ : Unit) => rp 49 .top) (fun (_ : Unit) => []) (fun y hm hr1 Kn1 hKn1 => ?_) fun t h => ?_
 · have h := hm
   clear hm
   cbv
   refine .g h (fun (i1 : Int) => [.top, .top, .ptr 0 0, .ptr 1 0, .top, oi i1] ++ rp 43 .top) (fun (i1 : Int) => [.cells [oi r_.Kind, .d (.val (.string r_.Name)), .d (.sl (W eA10Range r_.Zones)), oi r_.N, oi r_.R.Num, oi r_.R.Den, oi r_.S.Num, oi r_.S.Den] 41, .cells (ca f) 32]) (.nz (.mtE [0, 1] ?_)) fun s x h hr2 Kn2 hKn2 => ?_
   · (cbv; repeat (refine ⟨an_, ?_⟩; cbv))
   unfold ref13_Holds_l22 at h
   obtain ⟨i1, rfl⟩ : ∃ z, z = s := ⟨_, rfl⟩
   cbv
   refine brkG h ?_ ?_ <;> intro h
   · cbv
     refine .ga h (fun (_ : Unit) => [.top, .top, .ptr 0 0, .ptr 1 0, .top, oi i1] ++ rp 43 .top) (fun (_ : Unit) => [.cells [oi r_.Kind, .d (.val (.string r_.Name)), .d (.sl (W eA10Range r_.Zones)), oi r_.N, oi r_.R.Num, oi r_.R.Den, oi r_.S.Num, oi r_.S.Den] 41, .cells (ca f) 32]) (fun y hm hr3 Kn3 hKn3 => ?_) fun t h => ?_
     · have h := hm
       clear hm
       cbv
       refine .g h (fun (in2 : Bool) => [.top, .top, .ptr 0 0, .ptr 1 0, .top, oi i1, ob in2] ++ rp 42 .top) (fun (in2 : Bool) => [.cells [oi r_.Kind, .d (.val (.string r_.Name)), .d (.sl (W eA10Range r_.Zones)), oi r_.N, oi r_.R.Num, oi r_.R.Den, oi r_.S.Num, oi r_.S.Den] 41, .cells (ca f) 32]) (fun y hm Kn4 hKn4 => ?_) fun t h => ?_
       · have h := hm
         clear hm
         cbv
         refine .g h (fun ((in3, k4) : Bool × Int) => [.top, .top, .ptr 0 0, .ptr 1 0, .top, oi i1, ob in3, oi k4] ++ rp 41 .top) (fun ((in3, k4) : Bool × Int) => [.cells [oi r_.Kind, .d (.val (.string r_.Name)), .d (.sl (W eA10Range r_.Zones)), oi r_.N, oi r_.R.Num, oi r_.R.Den, oi r_.S.Num, oi r_.S.Den] 41, .cells (ca f) 32]) (.nz (.mtE [0, 1] ?_)) fun s x h hr5 Kn5 hKn5 => ?_
         · (cbv; repeat (refine ⟨an_, ?_⟩; cbv))
         unfold ref13_Holds_l26 at h
         obtain ⟨in3, k4⟩ := s
         cbv
         refine brkG h ?_ ?_ <;> intro h
         · cbv
           refine .g h (fun (in5 : Bool) => [.top, .top, .ptr 0 0, .ptr 1 0, .top, oi i1, ob in5, oi k4] ++ rp 41 .top) (fun (in5 : Bool) => [.cells [oi r_.Kind, .d (.val (.string r_.Name)), .d (.sl (W eA10Range r_.Zones)), oi r_.N, oi r_.R.Num, oi r_.R.Den, oi r_.S.Num, oi r_.S.Den] 41, .cells (ca f) 32]) (fun y hm Kn6 hKn6 => ?_) fun t h => ?_
           · have h := hm
             clear hm
             cbv
             refine brkG h ?_ ?_ <;> intro h
             · cbv
               refine .c10 h ?_ ?_ ?_ ?_ ?_ ?_ ?_ ?_ ?_ ?_ <;> (
                 intro hni6 h
                 cbv
                 refine .g h (fun _ => rfl) fun x7 h => ?_
                 cbv
                 refine .at _ hni6 (by decide) ?_
                 cbv
                 refine brkG h ?_ ?_ <;> intro h
                 · cbv
                   refine .at _ hni6 (by decide) ?_
                   cbv
                   refine .g h (fun _ => rfl) fun x8 h => ?_
                   cbv
                   refine .at _ hni6 (by decide) ?_
                   cbv
                   obtain rfl := oj h
                   refine hKn6 _ _ _ rfl (.nz (.mtE [0, 1] ?_))
                   (cbv; repeat (refine ⟨an_, ?_⟩; cbv))
                 · cbv
                   obtain rfl := oj h
                   refine hKn6 _ _ _ rfl (.nz (.mtE [0, 1] ?_))
                   (cbv; repeat (refine ⟨an_, ?_⟩; cbv))
                 )
             · cbv
               obtain rfl := oj h
               refine hKn6 _ _ _ rfl (.nz (.mtE [0, 1] ?_))
               (cbv; repeat (refine ⟨an_, ?_⟩; cbv))
           obtain ⟨in5, rfl⟩ : ∃ z, z = t := ⟨_, rfl⟩
           cbv
           obtain rfl := oj h
           refine hKn5 _ _ _ rfl (.nz (.mtE [0, 1] ?_))
           (cbv; repeat (refine ⟨an_, ?_⟩; cbv))
         · cbv
           obtain rfl := oj h
           obtain rfl := hr5 _ rfl
           refine hKn4 _ _ _ rfl (.nz (.mtE [0, 1] ?_))
           (cbv; repeat (refine ⟨an_, ?_⟩; cbv))
       obtain ⟨in2, rfl⟩ : ∃ z, z = t := ⟨_, rfl⟩
       cbv
       refine brkG h ?_ ?_ <;> intro h
       · cbv
         obtain rfl := oj h
         obtain rfl := hr3 _ rfl
         obtain rfl := hr2 _ rfl
         obtain rfl := hr1 _ rfl
         exact hK _ _ aw_
       · cbv
         obtain rfl := oj h
         refine hKn3 _ _ _ rfl (.nz (.mtE [0, 1] ?_))
         (cbv; repeat (refine ⟨an_, ?_⟩; cbv))
     cbv
     obtain rfl := oj h
     refine hKn2 _ _ _ rfl (.nz (.mtE [0, 1] ?_))
     (cbv; repeat (refine ⟨an_, ?_⟩; cbv))
   · cbv
     obtain rfl := oj h
     obtain rfl := hr2 _ rfl
     refine hKn1 _ _ _ rfl (.nz (.mtE [] ?_))
     (cbv; repeat (refine ⟨an_, ?_⟩; cbv))
 cbv
 obtain rfl := oj h
 exact hK _ _ aw_
end Go.SX.Cl
namespace Go.SX.Cl
open Go Go.SX Go.Proofs
set_option maxRecDepth 100000
def c69r0 : List GOp := [
 gv 3 (.box 24 (.tmp 0)),
 gv 4 (.box 32 (.tmp 1)),
 gv 6 (.mv (.const (.int .i64 0)))]
def c69r1 : List GOp := [
 gv 7 (.mv (.const (.int .i64 0)))]
def c69r2 : List GOp := [
 gv 8 (.mv (.tmp 7)),
 gv 9 (.fadd 0 (.tmp 3)),
 gv 10 (.load 1 false (.tmp 9)),
 gv 11 (.len false (.tmp 10)),
 gv 12 (.bin .lss (.tmp 8) (.tmp 11))]
def c69r3 : List GOp := [
 gv 15 (.fadd 0 (.tmp 3)),
 gv 16 (.load 1 false (.tmp 15)),
 gv 17 (.mv (.tmp 7)),
 gv 18 (.idxA 8 (.tmp 16) (.tmp 17)),
 gv 19 (.fadd 0 (.tmp 18)),
 gv 20 (.load 1 false (.tmp 19)),
 gv 21 (.mv (.tmp 2)),
 gv 22 (.bin .eql (.tmp 20) (.tmp 21)),
 gv 23 (.mv (.tmp 22)),
 gw 24 23 true (.fadd 0 (.tmp 3)),
 gw 25 23 true (.load 1 false (.tmp 24)),
 gw 26 23 true (.mv (.tmp 7)),
 gw 27 23 true (.idxA 8 (.tmp 25) (.tmp 26)),
 gw 28 23 true (.load 8 true (.tmp 27)),
 gw 29 23 true (.load 10 true (.tmp 4)),
 gw 30 23 true (.call 60 [(.tmp 28), (.tmp 29)]),
 gv 31 (.pick (.tmp 23) (.tmp 30) (.const (.bool false)))]
def c69r4 : List GOp := [
 gv 32 (.mv (.tmp 7)),
 gv 6 (.mv (.tmp 32))]
def c69r5 : List GOp := [
 gv 13 (.mv (.tmp 7)),
 gv 14 (.bin .add (.tmp 13) (.const (.int .i64 1))),
 gv 7 (.mv (.tmp 14))]
def c69l6 : DE := .seq (.seq (.reg c69r2) (.cond (.tmp 12) (.skip) (.exit 0))) (.seq (.block 1 (.join (.par false false false 15 c69r3) (.cond (.tmp 31) (.seq (.reg c69r4) (.ret)) (.skip)))) (.reg c69r5))
def c69r7 : List GOp := [
 gv 6 (.mv (.const (.int .i64 (-1))))]
def c69 : EFn := ⟨33, .seq (.reg c69r0) (.join (.seq (.reg c69r1) (.block 0 (.loop c69l6))) (.seq (.reg c69r7) (.ret))), [.tmp 6]⟩
theorem c69_ok : compF Try.prog 69 = some c69.er := by kernel_rfl
noncomputable def ref13_First_l2 (p : Policy) (kind : Int) (f : (A10 Int)) : Int → Option ((Int) ⊕ ((Unit) ⊕ (Int)))
 | i1 =>
 bif (io.lt i1 (io.len (W eRule p.Rules))) then (
 Option.bind (
 Option.bind (idxG p.Rules i1) fun x3 =>
 bif (io.eq x3.Kind kind) then (
 Option.bind (idxG p.Rules i1) fun x4 =>
 Option.bind (ref13_Holds_g x4 f) fun v5 =>
 some v5
 ) else (
 some false
 )
 ) fun v2 =>
 bif v2 then (
 some (.inr (.inr i1))
 ) else (
 some (.inl (io.ar .add .i64 i1 1))
 )
 ) else (
 some (.inr (.inl ()))
 )
noncomputable def ref13_First_g (p : Policy) (f : (A10 Int)) (kind : Int) : Option (Int) :=
 orR (
 whileG (ref13_First_l2 p kind f) 0
 ) fun _ =>
 some (-1)
set_option maxHeartbeats 4000000 in
theorem ref13_First_R {P : Program} (hP : P = Try.prog) (p : Policy) (f : (A10 Int)) (kind : Int) (r : Int) (h : ref13_First_g p f kind = some r) : Fn1 P 69 [vPolicy p, vA10Ii64 f, vIi64 kind] (vIi64 r) := by
 refine .walkE (hP ▸ c69_ok) fun K hK => ?_
 unfold ref13_First_g at h
 cbv
 refine .ga h (fun (_ : Unit) => rp 33 .top) (fun (_ : Unit) => []) (fun y hm hr1 Kn1 hKn1 => ?_) fun t h => ?_
 · have h := hm
   clear hm
   cbv
   refine .g h (fun (i1 : Int) => [.top, .top, oi kind, .ptr 0 0, .ptr 1 0, .top, .top, oi i1] ++ rp 25 .top) (fun (i1 : Int) => [.cells [.d (.sl (W eRule p.Rules))] 24, .cells (ca f) 32]) (.nz (.mtE [0, 1] ?_)) fun s x h hr2 Kn2 hKn2 => ?_
   · (cbv; repeat (refine ⟨an_, ?_⟩; cbv))
   unfold ref13_First_l2 at h
   obtain ⟨i1, rfl⟩ : ∃ z, z = s := ⟨_, rfl⟩
   cbv
   refine brkG h ?_ ?_ <;> intro h
   · cbv
     refine .g h (fun (v2 : Bool) => [.top, .top, oi kind, .ptr 0 0, .ptr 1 0, .top, .top, oi i1] ++ rp 23 .top ++ [ob v2, .top]) (fun (v2 : Bool) => [.cells [.d (.sl (W eRule p.Rules))] 24, .cells (ca f) 32]) (fun y hm Kn3 hKn3 => ?_) fun t h => ?_
     · have h := hm
       clear hm
       cbv
       refine .g h (fun _ => rfl) fun x3 h => ?_
       cbv
       refine brkG h ?_ ?_ <;> intro h
       · cbv
         refine .g h (fun _ => rfl) fun x4 h => ?_
         cbv
         refine .g h (fun v hv => ref13_Holds_R hP _ _ v hv) aw_ rfl (fun _ => rfl) fun v5 h => ?_
         cbv
         obtain rfl := oj h
         refine hKn3 _ _ _ rfl (.nz (.mtE [0, 1] ?_))
         (cbv; repeat (refine ⟨an_, ?_⟩; cbv))
       · cbv
         obtain rfl := oj h
         refine hKn3 _ _ _ rfl (.nz (.mtE [0, 1] ?_))
         (cbv; repeat (refine ⟨an_, ?_⟩; cbv))
     obtain ⟨v2, rfl⟩ : ∃ z, z = t := ⟨_, rfl⟩
     cbv
     refine brkG h ?_ ?_ <;> intro h
     · cbv
       obtain rfl := oj h
       obtain rfl := hr2 _ rfl
       obtain rfl := hr1 _ rfl
       exact hK _ _ aw_
     · cbv
       obtain rfl := oj h
       refine hKn2 _ _ _ rfl (.nz (.mtE [0, 1] ?_))
       (cbv; repeat (refine ⟨an_, ?_⟩; cbv))
   · cbv
     obtain rfl := oj h
     obtain rfl := hr2 _ rfl
     refine hKn1 _ _ _ rfl (.nz (.mtE [] ?_))
     (cbv; repeat (refine ⟨an_, ?_⟩; cbv))
 cbv
 obtain rfl := oj h
 exact hK _ _ aw_
end Go.SX.Cl
