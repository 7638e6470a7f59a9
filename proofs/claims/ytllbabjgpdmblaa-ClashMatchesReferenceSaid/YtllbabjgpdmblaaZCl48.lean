/- Parts of the proof. -/
import Derived.Test.YtllbabjgpdmblaaZClT
import Derived.Test.YtllbabjgpdmblaaZCl24
set_option linter.unusedSimpArgs false
set_option linter.unusedVariables false
namespace Go.SX.Cl
open Go Go.SX Go.Proofs
set_option maxRecDepth 100000
def c64r0 : List GOp := [
 gv 4 (.mv (.const (.slice none 0 0)))]
def c64r1 : List GOp := [
 gv 5 (.mv (.const (.int .i64 0)))]
def c64r2 : List GOp := [
 gv 7 (.mv (.tmp 5)),
 gv 8 (.mv (.tmp 0)),
 gv 9 (.len false (.tmp 8)),
 gv 10 (.bin .lss (.tmp 7) (.tmp 9)),
 gv 11 (.mv (.tmp 10)),
 gw 12 11 true (.mv (.tmp 0)),
 gw 13 11 true (.mv (.tmp 5)),
 gw 14 11 true (.idxA 1 (.tmp 12) (.tmp 13)),
 gw 15 11 true (.load 1 false (.tmp 14)),
 gw 16 11 true (.mv (.tmp 1)),
 gw 17 11 true (.bin .lss (.tmp 15) (.tmp 16)),
 gv 18 (.pick (.tmp 11) (.tmp 17) (.const (.bool false)))]
def c64r3 : List GOp := [
 gv 19 (.mv (.tmp 5)),
 gv 20 (.bin .add (.tmp 19) (.const (.int .i64 1))),
 gv 5 (.mv (.tmp 20))]
def c64l4 : DE := .seq (.join (.reg c64r2) (.cond (.tmp 18) (.skip) (.exit 0))) (.block 1 (.reg c64r3))
def c64r5 : List GOp := [
 gv 21 (.mv (.tmp 5)),
 gv 22 (.mv (.tmp 0)),
 gv 23 (.len false (.tmp 22)),
 gv 24 (.bin .lss (.tmp 21) (.tmp 23)),
 gv 25 (.mv (.tmp 24)),
 gw 26 25 true (.mv (.tmp 0)),
 gw 27 25 true (.mv (.tmp 5)),
 gw 28 25 true (.idxA 1 (.tmp 26) (.tmp 27)),
 gw 29 25 true (.load 1 false (.tmp 28)),
 gw 30 25 true (.mv (.tmp 1)),
 gw 31 25 true (.bin .eql (.tmp 29) (.tmp 30)),
 gv 32 (.pick (.tmp 25) (.tmp 31) (.const (.bool false)))]
def c64r6 : List GOp := [
 gv 33 (.mv (.tmp 0)),
 gv 4 (.mv (.tmp 33))]
def c64r7 : List GOp := [
 gv 34 (.bslice 3 1 0 oz []),
 gv 35 (.mv (.tmp 0)),
 gv 36 (.mv (.tmp 5)),
 gv 37 (.slc 1 (.tmp 35) none (some (.tmp 36))),
 gv 38 (.app 3 1 8 oz (.tmp 34) (.tmp 37)),
 gv 6 (.mv (.tmp 38))]
def c64r8 : List GOp := [
 gv 39 (.mv (.tmp 6)),
 gv 40 (.mv (.tmp 1)),
 gv 41 (.bslice 3 1 1 oz [(0, (.tmp 40))]),
 gv 42 (.app 3 1 8 oz (.tmp 39) (.tmp 41)),
 gv 6 (.mv (.tmp 42))]
def c64r9 : List GOp := [
 gv 43 (.mv (.tmp 6)),
 gv 44 (.mv (.tmp 0)),
 gv 45 (.mv (.tmp 5)),
 gv 46 (.slc 1 (.tmp 44) (some (.tmp 45)) none),
 gv 47 (.app 3 1 8 oz (.tmp 43) (.tmp 46)),
 gv 4 (.mv (.tmp 47))]
def c64 : EFn := ⟨48, .seq (.reg c64r0) (.seq (.reg c64r1) (.join (.block 0 (.loop c64l4)) (.seq (.join (.reg c64r5) (.cond (.tmp 32) (.seq (.reg c64r6) (.ret)) (.skip))) (.seq (.reg c64r7) (.seq (.reg c64r8) (.seq (.reg c64r9) (.ret))))))), [.tmp 4]⟩
theorem c64_ok : compF Try.prog 64 = some c64.er := by kernel_rfl
def c48r0 : List GOp := [
 gv 2 (.box 24 (.tmp 0)),
 gv 4 (.mv (.const (.slice none 0 0)))]
def c48r1 : List GOp := [
 gv 10 (.call 57 []),
 gv 5 (.alloc 54 (.agg #[oz, oz, oz, oz, oz, oz, oz, oz, oz, oz, oz, oz, oz, oz, oz, oz, oz, oz, oz, oz])),
 ⟨none, .store 20 (.tmp 5) (.tmp 10), none⟩]
def c48r2 : List GOp := [
 gv 11 (.mv (.tmp 1)),
 gv 12 (.idxP 10 2 (.tmp 5) (.tmp 11)),
 gv 13 (.fadd 0 (.tmp 12)),
 gv 14 (.load 1 false (.tmp 13)),
 gv 15 (.bslice 3 1 1 oz [(0, (.tmp 14))]),
 gv 6 (.mv (.tmp 15))]
def c48r3 : List GOp := [
 gv 7 (.mv (.const (.int .i64 0)))]
def c48r4 : List GOp := [
 gv 16 (.mv (.tmp 7)),
 gv 17 (.fadd 0 (.tmp 2)),
 gv 18 (.load 1 false (.tmp 17)),
 gv 19 (.len false (.tmp 18)),
 gv 20 (.bin .lss (.tmp 16) (.tmp 19))]
def c48r5 : List GOp := [
 gv 8 (.mv (.const (.int .i64 0)))]
def c48r6 : List GOp := [
 gv 23 (.mv (.tmp 8)),
 gv 24 (.fadd 0 (.tmp 2)),
 gv 25 (.load 1 false (.tmp 24)),
 gv 26 (.mv (.tmp 7)),
 gv 27 (.idxA 8 (.tmp 25) (.tmp 26)),
 gv 28 (.fadd 2 (.tmp 27)),
 gv 29 (.load 1 false (.tmp 28)),
 gv 30 (.len false (.tmp 29)),
 gv 31 (.bin .lss (.tmp 23) (.tmp 30))]
def c48r7 : List GOp := [
 gv 34 (.fadd 0 (.tmp 2)),
 gv 35 (.load 1 false (.tmp 34)),
 gv 36 (.mv (.tmp 7)),
 gv 37 (.idxA 8 (.tmp 35) (.tmp 36)),
 gv 38 (.fadd 2 (.tmp 37)),
 gv 39 (.load 1 false (.tmp 38)),
 gv 40 (.mv (.tmp 8)),
 gv 41 (.mv (.tmp 1)),
 gv 42 (.idxA 20 (.tmp 39) (.tmp 40)),
 gv 43 (.idxP 10 2 (.tmp 42) (.tmp 41)),
 gv 44 (.load 2 true (.tmp 43)),
 gv 9 (.alloc 52 (.agg #[oz, oz])),
 ⟨none, .store 2 (.tmp 9) (.tmp 44), none⟩]
def c48r8 : List GOp := [
 gv 45 (.mv (.tmp 6)),
 gv 46 (.fadd 0 (.tmp 9)),
 gv 47 (.load 1 false (.tmp 46)),
 gv 48 (.call 64 [(.tmp 45), (.tmp 47)]),
 gv 6 (.mv (.tmp 48))]
def c48r9 : List GOp := [
 gv 49 (.fadd 1 (.tmp 9)),
 gv 50 (.load 1 false (.tmp 49)),
 gv 51 (.mv (.tmp 1)),
 gv 52 (.idxP 10 2 (.tmp 5) (.tmp 51)),
 gv 53 (.fadd 1 (.tmp 52)),
 gv 54 (.load 1 false (.tmp 53)),
 gv 55 (.bin .lss (.tmp 50) (.tmp 54))]
def c48r10 : List GOp := [
 gv 56 (.mv (.tmp 6)),
 gv 57 (.fadd 1 (.tmp 9)),
 gv 58 (.load 1 false (.tmp 57)),
 gv 59 (.bin .add (.tmp 58) (.const (.int .i64 1))),
 gv 60 (.call 64 [(.tmp 56), (.tmp 59)]),
 gv 6 (.mv (.tmp 60))]
def c48r11 : List GOp := [
 gv 32 (.mv (.tmp 8)),
 gv 33 (.bin .add (.tmp 32) (.const (.int .i64 1))),
 gv 8 (.mv (.tmp 33))]
def c48l12 : DE := .seq (.seq (.reg c48r6) (.cond (.tmp 31) (.skip) (.exit 2))) (.join (.block 3 (.join (.reg c48r7) (.join (.reg c48r8) (.join (.par true true true 6 c48r9) (.cond (.tmp 55) (.reg c48r10) (.skip)))))) (.reg c48r11))
def c48r13 : List GOp := [
 gv 21 (.mv (.tmp 7)),
 gv 22 (.bin .add (.tmp 21) (.const (.int .i64 1))),
 gv 7 (.mv (.tmp 22))]
def c48l14 : DE := .seq (.seq (.reg c48r4) (.cond (.tmp 20) (.skip) (.exit 0))) (.join (.block 1 (.seq (.reg c48r5) (.block 2 (.loop c48l12)))) (.reg c48r13))
def c48r15 : List GOp := [
 gv 61 (.mv (.tmp 6)),
 gv 4 (.mv (.tmp 61))]
def c48 : EFn := ⟨62, .seq (.reg c48r0) (.seq (.reg c48r1) (.join (.reg c48r2) (.join (.seq (.reg c48r3) (.block 0 (.loop c48l14))) (.seq (.reg c48r15) (.ret))))), [.tmp 4]⟩
theorem c48_ok : compF Try.prog 48 = some c48.er := by kernel_rfl
noncomputable def ref16_starts_l444 (out9 : (List Int)) (Lo13 : Int) : Int → Option ((Int) ⊕ (Int))
 | k20 =>
 Option.bind (
 bif (io.lt k20 (io.len (W eIi64 out9))) then (
 Option.bind (rixG out9 k20) fun i22 =>
 Option.bind (out9[i22]?) fun v23 =>
 some (io.lt v23 Lo13)
 ) else (
 some false
 )
 ) fun v21 =>
 bif v21 then (
 some (.inl (io.ar .add .i64 k20 1))
 ) else (
 some (.inr k20)
 )
noncomputable def ref16_starts_l446 (out18 : (List Int)) (Hi14 : Int) : Int → Option ((Int) ⊕ (Int))
 | k37 =>
 Option.bind (
 bif (io.lt k37 (io.len (W eIi64 out18))) then (
 Option.bind (rixG out18 k37) fun i39 =>
 Option.bind (out18[i39]?) fun v40 =>
 some (io.lt v40 (io.ar .add .i64 Hi14 1))
 ) else (
 some false
 )
 ) fun v38 =>
 bif v38 then (
 some (.inl (io.ar .add .i64 k37 1))
 ) else (
 some (.inr k37)
 )
noncomputable def ref16_starts_l434 (p : Policy) (i7 : Int) (attr : Int) (v1 : (A10 Range)) : ((List Int) × Int) → Option (((List Int) × Int) ⊕ ((List Int)))
 | (out9, k10) =>
 Option.bind (idxG p.Rules i7) fun x11 =>
 bif (io.lt k10 (io.len (W eA10Range x11.Zones))) then (
 Option.bind (
 Option.bind (
 Option.bind (idxG p.Rules i7) fun x15 =>
 Option.bind (idxG x15.Zones k10) fun x16 =>
 Option.bind (pixG 10 attr) fun i17 =>
 some ((x16.get i17).Lo, (x16.get i17).Hi)
 ) fun (Lo13, Hi14) =>
 Option.bind (
 Option.bind (
 whileG (ref16_starts_l444 out9 Lo13) 0
 ) fun k19 =>
 Option.bind (
 bif (io.lt k19 (io.len (W eIi64 out9))) then (
 Option.bind (rixG out9 k19) fun i25 =>
 Option.bind (out9[i25]?) fun v26 =>
 some (io.eq v26 Lo13)
 ) else (
 some false
 )
 ) fun v24 =>
 bif v24 then (
 some out9
 ) else (
 Option.bind (some ([] : List Int)) fun l27 =>
 Option.bind (subG out9 0 k19) fun l28 =>
 Option.bind (appG l27 l28) fun out29 =>
 Option.bind (some [Lo13]) fun l30 =>
 Option.bind (appG out29 l30) fun out31 =>
 Option.bind (subG out9 k19 (io.len (W eIi64 out9))) fun l32 =>
 Option.bind (appG out31 l32) fun l33 =>
 some l33
 )
 ) fun out18 =>
 Option.bind (
 Option.bind (pixG 10 attr) fun i35 =>
 some (io.lt Hi14 (v1.get i35).Hi)
 ) fun v34 =>
 bif v34 then (
 Option.bind (
 whileG (ref16_starts_l446 out18 Hi14) 0
 ) fun k36 =>
 Option.bind (
 bif (io.lt k36 (io.len (W eIi64 out18))) then (
 Option.bind (rixG out18 k36) fun i42 =>
 Option.bind (out18[i42]?) fun v43 =>
 some (io.eq v43 (io.ar .add .i64 Hi14 1))
 ) else (
 some false
 )
 ) fun v41 =>
 bif v41 then (
 some out18
 ) else (
 Option.bind (some ([] : List Int)) fun l44 =>
 Option.bind (subG out18 0 k36) fun l45 =>
 Option.bind (appG l44 l45) fun out46 =>
 Option.bind (some [(io.ar .add .i64 Hi14 1)]) fun l47 =>
 Option.bind (appG out46 l47) fun out48 =>
 Option.bind (subG out18 k36 (io.len (W eIi64 out18))) fun l49 =>
 Option.bind (appG out48 l49) fun l50 =>
 some l50
 )
 ) else (
 some out18
 )
 ) fun out12 =>
 some (.inl (out12, (io.ar .add .i64 k10 1)))
 ) else (
 some (.inr out9)
 )
noncomputable def ref16_starts_l372 (p : Policy) (attr : Int) (v1 : (A10 Range)) : ((List Int) × Int) → Option (((List Int) × Int) ⊕ ((List Int)))
 | (out6, i7) =>
 bif (io.lt i7 (io.len (W eRule p.Rules))) then (
 Option.bind (
 whileG (ref16_starts_l434 p i7 attr v1) (out6, 0)
 ) fun out8 =>
 some (.inl (out8, (io.ar .add .i64 i7 1)))
 ) else (
 some (.inr out6)
 )
noncomputable def ref16_starts_g (p : Policy) (attr : Int) : Option ((List Int)) :=
 Option.bind (ref12_Limits_g) fun v1 =>
 Option.bind (
 Option.bind (pixG 10 attr) fun i3 =>
 Option.bind (some [(v1.get i3).Lo]) fun out4 =>
 some out4
 ) fun out2 =>
 Option.bind (
 whileG (ref16_starts_l372 p attr v1) (out2, 0)
 ) fun out5 =>
 some out5
set_option maxHeartbeats 4000000 in
theorem ref16_starts_R {P : Program} (hP : P = Try.prog) (p : Policy) (attr : Int) (r : (List Int)) (h : ref16_starts_g p attr = some r) : Fn1 P 48 [vPolicy p, vIi64 attr] (vLIi64 r) := by
 refine .walkE (hP ▸ c48_ok) fun K hK => ?_
 unfold ref16_starts_g at h
 cbv
 refine .g h (fun v hv => ref12_Limits_R hP v hv) aw_ rfl (fun _ => rfl) fun v1 h => ?_
 cbv
 refine .g h (fun (out2 : (List Int)) => [.top, oi attr, .ptr 0 0, .top, .top, .ptr 1 0, .hd 2] ++ rp 55 .top) (fun (out2 : (List Int)) => [.cells [.d (.sl (W eRule p.Rules))] 24, .cells [oi v1.a0.Lo, oi v1.a0.Hi, oi v1.a1.Lo, oi v1.a1.Hi, oi v1.a2.Lo, oi v1.a2.Hi, oi v1.a3.Lo, oi v1.a3.Hi, oi v1.a4.Lo, oi v1.a4.Hi, oi v1.a5.Lo, oi v1.a5.Hi, oi v1.a6.Lo, oi v1.a6.Hi, oi v1.a7.Lo, oi v1.a7.Hi, oi v1.a8.Lo, oi v1.a8.Hi, oi v1.a9.Lo, oi v1.a9.Hi] 54, .row 3 1 (W eIi64 out2)]) (fun y hm Kn1 hKn1 => ?_) fun t h => ?_
 · have h := hm
   clear hm
   cbv
   refine .c10 h ?_ ?_ ?_ ?_ ?_ ?_ ?_ ?_ ?_ ?_ <;> (
     intro hni3 h
     cbv
     refine .g (e := eIi64) h (W_cons aw_ (W_nil' _)) fun out4 h => ?_
     cbv
     obtain rfl := oj h
     refine hKn1 _ _ _ rfl (.nz (.mtE [0, 1, 2] ?_))
     (cbv; repeat (refine ⟨an_, ?_⟩; cbv))
     )
 obtain ⟨out2, rfl⟩ : ∃ z, z = t := ⟨_, rfl⟩
 cbv
 refine .g h (fun (out5 : (List Int)) => rp 6 .top ++ [.hd 0] ++ rp 55 .top) (fun (out5 : (List Int)) => [.row 3 1 (W eIi64 out5)]) (fun y hm Kn1 hKn1 => ?_) fun t h => ?_
 · have h := hm
   clear hm
   cbv
   refine .g h (fun ((out6, i7) : (List Int) × Int) => [.top, oi attr, .ptr 0 0, .top, .top, .ptr 1 0, .hd 2, oi i7] ++ rp 54 .top) (fun ((out6, i7) : (List Int) × Int) => [.cells [.d (.sl (W eRule p.Rules))] 24, .cells [oi v1.a0.Lo, oi v1.a0.Hi, oi v1.a1.Lo, oi v1.a1.Hi, oi v1.a2.Lo, oi v1.a2.Hi, oi v1.a3.Lo, oi v1.a3.Hi, oi v1.a4.Lo, oi v1.a4.Hi, oi v1.a5.Lo, oi v1.a5.Hi, oi v1.a6.Lo, oi v1.a6.Hi, oi v1.a7.Lo, oi v1.a7.Hi, oi v1.a8.Lo, oi v1.a8.Hi, oi v1.a9.Lo, oi v1.a9.Hi] 54, .row 3 1 (W eIi64 out6)]) (.nz (.mtE [0, 1, 2] ?_)) fun s x h hr2 Kn2 hKn2 => ?_
   · (cbv; repeat (refine ⟨an_, ?_⟩; cbv))
   unfold ref16_starts_l372 at h
   obtain ⟨out6, i7⟩ := s
   cbv
   refine brkG h ?_ ?_ <;> intro h
   · cbv
     refine .g h (fun (out8 : (List Int)) => [.top, oi attr, .ptr 0 0, .top, .top, .ptr 1 0, .hd 2, oi i7] ++ rp 54 .top) (fun (out8 : (List Int)) => [.cells [.d (.sl (W eRule p.Rules))] 24, .cells [oi v1.a0.Lo, oi v1.a0.Hi, oi v1.a1.Lo, oi v1.a1.Hi, oi v1.a2.Lo, oi v1.a2.Hi, oi v1.a3.Lo, oi v1.a3.Hi, oi v1.a4.Lo, oi v1.a4.Hi, oi v1.a5.Lo, oi v1.a5.Hi, oi v1.a6.Lo, oi v1.a6.Hi, oi v1.a7.Lo, oi v1.a7.Hi, oi v1.a8.Lo, oi v1.a8.Hi, oi v1.a9.Lo, oi v1.a9.Hi] 54, .row 3 1 (W eIi64 out8)]) (fun y hm Kn3 hKn3 => ?_) fun t h => ?_
     · have h := hm
       clear hm
       cbv
       refine .g h (fun ((out9, k10) : (List Int) × Int) => [.top, oi attr, .ptr 0 0, .top, .top, .ptr 1 0, .hd 2, oi i7, oi k10] ++ rp 53 .top) (fun ((out9, k10) : (List Int) × Int) => [.cells [.d (.sl (W eRule p.Rules))] 24, .cells [oi v1.a0.Lo, oi v1.a0.Hi, oi v1.a1.Lo, oi v1.a1.Hi, oi v1.a2.Lo, oi v1.a2.Hi, oi v1.a3.Lo, oi v1.a3.Hi, oi v1.a4.Lo, oi v1.a4.Hi, oi v1.a5.Lo, oi v1.a5.Hi, oi v1.a6.Lo, oi v1.a6.Hi, oi v1.a7.Lo, oi v1.a7.Hi, oi v1.a8.Lo, oi v1.a8.Hi, oi v1.a9.Lo, oi v1.a9.Hi] 54, .row 3 1 (W eIi64 out9)]) (.nz (.mtE [0, 1, 2] ?_)) fun s x h hr4 Kn4 hKn4 => ?_
       · (cbv; repeat (refine ⟨an_, ?_⟩; cbv))
       unfold ref16_starts_l434 at h
       obtain ⟨out9, k10⟩ := s
       cbv
       refine .g h (fun _ => rfl) fun x11 h => ?_
       cbv
       refine brkG h ?_ ?_ <;> intro h
       · cbv
         refine .g h (fun (out12 : (List Int)) => [.top, oi attr, .ptr 0 0, .top, .top, .ptr 1 0, .hd 2, oi i7, oi k10] ++ rp 53 .top) (fun (out12 : (List Int)) => [.cells [.d (.sl (W eRule p.Rules))] 24, .cells [oi v1.a0.Lo, oi v1.a0.Hi, oi v1.a1.Lo, oi v1.a1.Hi, oi v1.a2.Lo, oi v1.a2.Hi, oi v1.a3.Lo, oi v1.a3.Hi, oi v1.a4.Lo, oi v1.a4.Hi, oi v1.a5.Lo, oi v1.a5.Hi, oi v1.a6.Lo, oi v1.a6.Hi, oi v1.a7.Lo, oi v1.a7.Hi, oi v1.a8.Lo, oi v1.a8.Hi, oi v1.a9.Lo, oi v1.a9.Hi] 54, .row 3 1 (W eIi64 out12)]) (fun y hm Kn5 hKn5 => ?_) fun t h => ?_
         · have h := hm
           clear hm
           cbv
           refine .g h (fun ((Lo13, Hi14) : Int × Int) => [.top, oi attr, .ptr 0 0, .top, .top, .ptr 1 0, .hd 2, oi i7, oi k10, .ptr 3 0] ++ rp 52 .top) (fun ((Lo13, Hi14) : Int × Int) => [.cells [.d (.sl (W eRule p.Rules))] 24, .cells [oi v1.a0.Lo, oi v1.a0.Hi, oi v1.a1.Lo, oi v1.a1.Hi, oi v1.a2.Lo, oi v1.a2.Hi, oi v1.a3.Lo, oi v1.a3.Hi, oi v1.a4.Lo, oi v1.a4.Hi, oi v1.a5.Lo, oi v1.a5.Hi, oi v1.a6.Lo, oi v1.a6.Hi, oi v1.a7.Lo, oi v1.a7.Hi, oi v1.a8.Lo, oi v1.a8.Hi, oi v1.a9.Lo, oi v1.a9.Hi] 54, .row 3 1 (W eIi64 out9), .cells [oi Lo13, oi Hi14] 52]) (fun y hm Kn6 hKn6 => ?_) fun t h => ?_
           · have h := hm
             clear hm
             cbv
             refine .g h (fun _ => rfl) fun x15 h => ?_
             cbv
             refine .g h (fun _ => rfl) fun x16 h => ?_
             cbv
             refine .c10 h ?_ ?_ ?_ ?_ ?_ ?_ ?_ ?_ ?_ ?_ <;> (
               intro hni17 h
               cbv
               obtain rfl := oj h
               refine hKn6 _ _ _ rfl (.nz (.mtE [0, 1, 2, 3] ?_))
               (cbv; repeat (refine ⟨an_, ?_⟩; cbv))
               )
           obtain ⟨Lo13, Hi14⟩ := t
           cbv
           refine .g h (fun (out18 : (List Int)) => [.top, oi attr, .ptr 0 0, .top, .top, .ptr 1 0, .hd 2, oi i7, oi k10, .ptr 3 0] ++ rp 52 .top) (fun (out18 : (List Int)) => [.cells [.d (.sl (W eRule p.Rules))] 24, .cells [oi v1.a0.Lo, oi v1.a0.Hi, oi v1.a1.Lo, oi v1.a1.Hi, oi v1.a2.Lo, oi v1.a2.Hi, oi v1.a3.Lo, oi v1.a3.Hi, oi v1.a4.Lo, oi v1.a4.Hi, oi v1.a5.Lo, oi v1.a5.Hi, oi v1.a6.Lo, oi v1.a6.Hi, oi v1.a7.Lo, oi v1.a7.Hi, oi v1.a8.Lo, oi v1.a8.Hi, oi v1.a9.Lo, oi v1.a9.Hi] 54, .row 3 1 (W eIi64 out18), .cells [oi Lo13, oi Hi14] 52]) (fun y hm Kn6 hKn6 => ?_) fun t h => ?_
           · have h := hm
             clear hm
             cbv
             refine .inl (hP ▸ c64_ok) ?_
             cbv
             refine .g h (fun (k19 : Int) => [.hd 2, oi Lo13] ++ rp 3 .top ++ [oi k19] ++ rp 42 .top) (fun (k19 : Int) => [.cells [.d (.sl (W eRule p.Rules))] 24, .cells [oi v1.a0.Lo, oi v1.a0.Hi, oi v1.a1.Lo, oi v1.a1.Hi, oi v1.a2.Lo, oi v1.a2.Hi, oi v1.a3.Lo, oi v1.a3.Hi, oi v1.a4.Lo, oi v1.a4.Hi, oi v1.a5.Lo, oi v1.a5.Hi, oi v1.a6.Lo, oi v1.a6.Hi, oi v1.a7.Lo, oi v1.a7.Hi, oi v1.a8.Lo, oi v1.a8.Hi, oi v1.a9.Lo, oi v1.a9.Hi] 54, .row 3 1 (W eIi64 out9), .cells [oi Lo13, oi Hi14] 52]) (fun y hm Kn7 hKn7 => ?_) fun t h => ?_
             · have h := hm
               clear hm
               cbv
               refine .g h (fun (k20 : Int) => [.hd 2, oi Lo13] ++ rp 3 .top ++ [oi k20] ++ rp 42 .top) (fun (k20 : Int) => [.cells [.d (.sl (W eRule p.Rules))] 24, .cells [oi v1.a0.Lo, oi v1.a0.Hi, oi v1.a1.Lo, oi v1.a1.Hi, oi v1.a2.Lo, oi v1.a2.Hi, oi v1.a3.Lo, oi v1.a3.Hi, oi v1.a4.Lo, oi v1.a4.Hi, oi v1.a5.Lo, oi v1.a5.Hi, oi v1.a6.Lo, oi v1.a6.Hi, oi v1.a7.Lo, oi v1.a7.Hi, oi v1.a8.Lo, oi v1.a8.Hi, oi v1.a9.Lo, oi v1.a9.Hi] 54, .row 3 1 (W eIi64 out9), .cells [oi Lo13, oi Hi14] 52]) (.nz (.mtE [0, 1, 2, 3] ?_)) fun s x h hr8 Kn8 hKn8 => ?_
               · (cbv; repeat (refine ⟨an_, ?_⟩; cbv))
               unfold ref16_starts_l444 at h
               obtain ⟨k20, rfl⟩ : ∃ z, z = s := ⟨_, rfl⟩
               cbv
               refine .g h (fun (v21 : Bool) => [.hd 2, oi Lo13] ++ rp 3 .top ++ [oi k20] ++ rp 12 .top ++ [ob v21] ++ rp 29 .top) (fun (v21 : Bool) => [.cells [.d (.sl (W eRule p.Rules))] 24, .cells [oi v1.a0.Lo, oi v1.a0.Hi, oi v1.a1.Lo, oi v1.a1.Hi, oi v1.a2.Lo, oi v1.a2.Hi, oi v1.a3.Lo, oi v1.a3.Hi, oi v1.a4.Lo, oi v1.a4.Hi, oi v1.a5.Lo, oi v1.a5.Hi, oi v1.a6.Lo, oi v1.a6.Hi, oi v1.a7.Lo, oi v1.a7.Hi, oi v1.a8.Lo, oi v1.a8.Hi, oi v1.a9.Lo, oi v1.a9.Hi] 54, .row 3 1 (W eIi64 out9), .cells [oi Lo13, oi Hi14] 52]) (fun y hm Kn9 hKn9 => ?_) fun t h => ?_
               · have h := hm
                 clear hm
                 cbv
                 refine brkG h ?_ ?_ <;> intro h
                 · cbv
                   refine .g h fun i22 h => ?_
                   cbv
                   refine .g h fun v23 h => ?_
                   cbv
                   obtain rfl := oj h
                   refine hKn9 _ _ _ rfl (.nz (.mtE [0, 1, 2, 3] ?_))
                   (cbv; repeat (refine ⟨an_, ?_⟩; cbv))
                 · cbv
                   obtain rfl := oj h
                   refine hKn9 _ _ _ rfl (.nz (.mtE [0, 1, 2, 3] ?_))
                   (cbv; repeat (refine ⟨an_, ?_⟩; cbv))
               obtain ⟨v21, rfl⟩ : ∃ z, z = t := ⟨_, rfl⟩
               cbv
               refine brkG h ?_ ?_ <;> intro h
               · cbv
                 obtain rfl := oj h
                 refine hKn8 _ _ _ rfl (.nz (.mtE [0, 1, 2, 3] ?_))
                 (cbv; repeat (refine ⟨an_, ?_⟩; cbv))
               · cbv
                 obtain rfl := oj h
                 obtain rfl := hr8 _ rfl
                 refine hKn7 _ _ _ rfl (.nz (.mtE [0, 1, 2, 3] ?_))
                 (cbv; repeat (refine ⟨an_, ?_⟩; cbv))
             obtain ⟨k19, rfl⟩ : ∃ z, z = t := ⟨_, rfl⟩
             cbv
             refine .g h (fun (v24 : Bool) => [.hd 2, oi Lo13] ++ rp 3 .top ++ [oi k19] ++ rp 26 .top ++ [ob v24] ++ rp 15 .top) (fun (v24 : Bool) => [.cells [.d (.sl (W eRule p.Rules))] 24, .cells [oi v1.a0.Lo, oi v1.a0.Hi, oi v1.a1.Lo, oi v1.a1.Hi, oi v1.a2.Lo, oi v1.a2.Hi, oi v1.a3.Lo, oi v1.a3.Hi, oi v1.a4.Lo, oi v1.a4.Hi, oi v1.a5.Lo, oi v1.a5.Hi, oi v1.a6.Lo, oi v1.a6.Hi, oi v1.a7.Lo, oi v1.a7.Hi, oi v1.a8.Lo, oi v1.a8.Hi, oi v1.a9.Lo, oi v1.a9.Hi] 54, .row 3 1 (W eIi64 out9), .cells [oi Lo13, oi Hi14] 52]) (fun y hm Kn7 hKn7 => ?_) fun t h => ?_
             · have h := hm
               clear hm
               cbv
               refine brkG h ?_ ?_ <;> intro h
               · cbv
                 refine .g h fun i25 h => ?_
                 cbv
                 refine .g h fun v26 h => ?_
                 cbv
                 obtain rfl := oj h
                 refine hKn7 _ _ _ rfl (.nz (.mtE [0, 1, 2, 3] ?_))
                 (cbv; repeat (refine ⟨an_, ?_⟩; cbv))
               · cbv
                 obtain rfl := oj h
                 refine hKn7 _ _ _ rfl (.nz (.mtE [0, 1, 2, 3] ?_))
                 (cbv; repeat (refine ⟨an_, ?_⟩; cbv))
             obtain ⟨v24, rfl⟩ : ∃ z, z = t := ⟨_, rfl⟩
             cbv
             refine brkG h ?_ ?_ <;> intro h
             · cbv
               obtain rfl := oj h
               refine hKn6 _ _ _ rfl (.nz (.mtE [0, 1, 2, 3] ?_))
               (cbv; repeat (refine ⟨an_, ?_⟩; cbv))
             · cbv
               refine .g (e := eIi64) h (W_nil' _) fun l27 h => ?_
               cbv
               refine .data ?_
               cbv
               refine .g h (fun _ => rfl) fun l28 h => ?_
               cbv
               refine .g h rfl (fun _ => rfl) (by decide) fun out29 h => ?_
               cbv
               refine .g (e := eIi64) h (W_cons aw_ (W_nil' _)) fun l30 h => ?_
               cbv
               refine .g h rfl (fun _ => rfl) (by decide) fun out31 h => ?_
               cbv
               refine .g h (fun _ => rfl) fun l32 h => ?_
               cbv
               refine .g h rfl (fun _ => rfl) (by decide) fun l33 h => ?_
               cbv
               obtain rfl := oj h
               refine hKn6 _ _ _ rfl (.nz (.mtE [0, 1, 8, 3] ?_))
               (cbv; repeat (refine ⟨an_, ?_⟩; cbv))
           obtain ⟨out18, rfl⟩ : ∃ z, z = t := ⟨_, rfl⟩
           cbv
           refine .g h (fun (v34 : Bool) => [.top, oi attr, .ptr 0 0, .top, .top, .ptr 1 0, .hd 2, oi i7, oi k10, .ptr 3 0] ++ rp 45 .top ++ [ob v34] ++ rp 6 .top) (fun (v34 : Bool) => [.cells [.d (.sl (W eRule p.Rules))] 24, .cells [oi v1.a0.Lo, oi v1.a0.Hi, oi v1.a1.Lo, oi v1.a1.Hi, oi v1.a2.Lo, oi v1.a2.Hi, oi v1.a3.Lo, oi v1.a3.Hi, oi v1.a4.Lo, oi v1.a4.Hi, oi v1.a5.Lo, oi v1.a5.Hi, oi v1.a6.Lo, oi v1.a6.Hi, oi v1.a7.Lo, oi v1.a7.Hi, oi v1.a8.Lo, oi v1.a8.Hi, oi v1.a9.Lo, oi v1.a9.Hi] 54, .row 3 1 (W eIi64 out18), .cells [oi Lo13, oi Hi14] 52]) (fun y hm Kn6 hKn6 => ?_) fun t h => ?_
           · have h := hm
             clear hm
             cbv
             refine .c10 h ?_ ?_ ?_ ?_ ?_ ?_ ?_ ?_ ?_ ?_ <;> (
               intro hni35 h
               cbv
               obtain rfl := oj h
               refine hKn6 _ _ _ rfl (.nz (.mtE [0, 1, 2, 3] ?_))
               (cbv; repeat (refine ⟨an_, ?_⟩; cbv))
               )
           obtain ⟨v34, rfl⟩ : ∃ z, z = t := ⟨_, rfl⟩
           cbv
           refine brkG h ?_ ?_ <;> intro h
           · cbv
             refine .inl (hP ▸ c64_ok) ?_
             cbv
             refine .g h (fun (k36 : Int) => [.hd 2, oi (io.ar .add .i64 Hi14 1)] ++ rp 3 .top ++ [oi k36] ++ rp 42 .top) (fun (k36 : Int) => [.cells [.d (.sl (W eRule p.Rules))] 24, .cells [oi v1.a0.Lo, oi v1.a0.Hi, oi v1.a1.Lo, oi v1.a1.Hi, oi v1.a2.Lo, oi v1.a2.Hi, oi v1.a3.Lo, oi v1.a3.Hi, oi v1.a4.Lo, oi v1.a4.Hi, oi v1.a5.Lo, oi v1.a5.Hi, oi v1.a6.Lo, oi v1.a6.Hi, oi v1.a7.Lo, oi v1.a7.Hi, oi v1.a8.Lo, oi v1.a8.Hi, oi v1.a9.Lo, oi v1.a9.Hi] 54, .row 3 1 (W eIi64 out18), .cells [oi Lo13, oi Hi14] 52]) (fun y hm Kn6 hKn6 => ?_) fun t h => ?_
             · have h := hm
               clear hm
               cbv
               refine .g h (fun (k37 : Int) => [.hd 2, oi (io.ar .add .i64 Hi14 1)] ++ rp 3 .top ++ [oi k37] ++ rp 42 .top) (fun (k37 : Int) => [.cells [.d (.sl (W eRule p.Rules))] 24, .cells [oi v1.a0.Lo, oi v1.a0.Hi, oi v1.a1.Lo, oi v1.a1.Hi, oi v1.a2.Lo, oi v1.a2.Hi, oi v1.a3.Lo, oi v1.a3.Hi, oi v1.a4.Lo, oi v1.a4.Hi, oi v1.a5.Lo, oi v1.a5.Hi, oi v1.a6.Lo, oi v1.a6.Hi, oi v1.a7.Lo, oi v1.a7.Hi, oi v1.a8.Lo, oi v1.a8.Hi, oi v1.a9.Lo, oi v1.a9.Hi] 54, .row 3 1 (W eIi64 out18), .cells [oi Lo13, oi Hi14] 52]) (.nz (.mtE [0, 1, 2, 3] ?_)) fun s x h hr7 Kn7 hKn7 => ?_
               · (cbv; repeat (refine ⟨an_, ?_⟩; cbv))
               unfold ref16_starts_l446 at h
               obtain ⟨k37, rfl⟩ : ∃ z, z = s := ⟨_, rfl⟩
               cbv
               refine .g h (fun (v38 : Bool) => [.hd 2, oi (io.ar .add .i64 Hi14 1)] ++ rp 3 .top ++ [oi k37] ++ rp 12 .top ++ [ob v38] ++ rp 29 .top) (fun (v38 : Bool) => [.cells [.d (.sl (W eRule p.Rules))] 24, .cells [oi v1.a0.Lo, oi v1.a0.Hi, oi v1.a1.Lo, oi v1.a1.Hi, oi v1.a2.Lo, oi v1.a2.Hi, oi v1.a3.Lo, oi v1.a3.Hi, oi v1.a4.Lo, oi v1.a4.Hi, oi v1.a5.Lo, oi v1.a5.Hi, oi v1.a6.Lo, oi v1.a6.Hi, oi v1.a7.Lo, oi v1.a7.Hi, oi v1.a8.Lo, oi v1.a8.Hi, oi v1.a9.Lo, oi v1.a9.Hi] 54, .row 3 1 (W eIi64 out18), .cells [oi Lo13, oi Hi14] 52]) (fun y hm Kn8 hKn8 => ?_) fun t h => ?_
               · have h := hm
                 clear hm
                 cbv
                 refine brkG h ?_ ?_ <;> intro h
                 · cbv
                   refine .g h fun i39 h => ?_
                   cbv
                   refine .g h fun v40 h => ?_
                   cbv
                   obtain rfl := oj h
                   refine hKn8 _ _ _ rfl (.nz (.mtE [0, 1, 2, 3] ?_))
                   (cbv; repeat (refine ⟨an_, ?_⟩; cbv))
                 · cbv
                   obtain rfl := oj h
                   refine hKn8 _ _ _ rfl (.nz (.mtE [0, 1, 2, 3] ?_))
                   (cbv; repeat (refine ⟨an_, ?_⟩; cbv))
               obtain ⟨v38, rfl⟩ : ∃ z, z = t := ⟨_, rfl⟩
               cbv
               refine brkG h ?_ ?_ <;> intro h
               · cbv
                 obtain rfl := oj h
                 refine hKn7 _ _ _ rfl (.nz (.mtE [0, 1, 2, 3] ?_))
                 (cbv; repeat (refine ⟨an_, ?_⟩; cbv))
               · cbv
                 obtain rfl := oj h
                 obtain rfl := hr7 _ rfl
                 refine hKn6 _ _ _ rfl (.nz (.mtE [0, 1, 2, 3] ?_))
                 (cbv; repeat (refine ⟨an_, ?_⟩; cbv))
             obtain ⟨k36, rfl⟩ : ∃ z, z = t := ⟨_, rfl⟩
             cbv
             refine .g h (fun (v41 : Bool) => [.hd 2, oi (io.ar .add .i64 Hi14 1)] ++ rp 3 .top ++ [oi k36] ++ rp 26 .top ++ [ob v41] ++ rp 15 .top) (fun (v41 : Bool) => [.cells [.d (.sl (W eRule p.Rules))] 24, .cells [oi v1.a0.Lo, oi v1.a0.Hi, oi v1.a1.Lo, oi v1.a1.Hi, oi v1.a2.Lo, oi v1.a2.Hi, oi v1.a3.Lo, oi v1.a3.Hi, oi v1.a4.Lo, oi v1.a4.Hi, oi v1.a5.Lo, oi v1.a5.Hi, oi v1.a6.Lo, oi v1.a6.Hi, oi v1.a7.Lo, oi v1.a7.Hi, oi v1.a8.Lo, oi v1.a8.Hi, oi v1.a9.Lo, oi v1.a9.Hi] 54, .row 3 1 (W eIi64 out18), .cells [oi Lo13, oi Hi14] 52]) (fun y hm Kn6 hKn6 => ?_) fun t h => ?_
             · have h := hm
               clear hm
               cbv
               refine brkG h ?_ ?_ <;> intro h
               · cbv
                 refine .g h fun i42 h => ?_
                 cbv
                 refine .g h fun v43 h => ?_
                 cbv
                 obtain rfl := oj h
                 refine hKn6 _ _ _ rfl (.nz (.mtE [0, 1, 2, 3] ?_))
                 (cbv; repeat (refine ⟨an_, ?_⟩; cbv))
               · cbv
                 obtain rfl := oj h
                 refine hKn6 _ _ _ rfl (.nz (.mtE [0, 1, 2, 3] ?_))
                 (cbv; repeat (refine ⟨an_, ?_⟩; cbv))
             obtain ⟨v41, rfl⟩ : ∃ z, z = t := ⟨_, rfl⟩
             cbv
             refine brkG h ?_ ?_ <;> intro h
             · cbv
               obtain rfl := oj h
               refine hKn5 _ _ _ rfl (.nz (.mtE [0, 1, 2] ?_))
               (cbv; repeat (refine ⟨an_, ?_⟩; cbv))
             · cbv
               refine .g (e := eIi64) h (W_nil' _) fun l44 h => ?_
               cbv
               refine .data ?_
               cbv
               refine .g h (fun _ => rfl) fun l45 h => ?_
               cbv
               refine .g h rfl (fun _ => rfl) (by decide) fun out46 h => ?_
               cbv
               refine .g (e := eIi64) h (W_cons aw_ (W_nil' _)) fun l47 h => ?_
               cbv
               refine .g h rfl (fun _ => rfl) (by decide) fun out48 h => ?_
               cbv
               refine .g h (fun _ => rfl) fun l49 h => ?_
               cbv
               refine .g h rfl (fun _ => rfl) (by decide) fun l50 h => ?_
               cbv
               obtain rfl := oj h
               refine hKn5 _ _ _ rfl (.nz (.mtE [0, 1, 8] ?_))
               (cbv; repeat (refine ⟨an_, ?_⟩; cbv))
           · cbv
             obtain rfl := oj h
             refine hKn5 _ _ _ rfl (.nz (.mtE [0, 1, 2] ?_))
             (cbv; repeat (refine ⟨an_, ?_⟩; cbv))
         obtain ⟨out12, rfl⟩ : ∃ z, z = t := ⟨_, rfl⟩
         cbv
         obtain rfl := oj h
         refine hKn4 _ _ _ rfl (.nz (.mtE [0, 1, 2] ?_))
         (cbv; repeat (refine ⟨an_, ?_⟩; cbv))
       · cbv
         obtain rfl := oj h
         obtain rfl := hr4 _ rfl
         refine hKn3 _ _ _ rfl (.nz (.mtE [0, 1, 2] ?_))
         (cbv; repeat (refine ⟨an_, ?_⟩; cbv))
     obtain ⟨out8, rfl⟩ : ∃ z, z = t := ⟨_, rfl⟩
     cbv
     obtain rfl := oj h
     refine hKn2 _ _ _ rfl (.nz (.mtE [0, 1, 2] ?_))
     (cbv; repeat (refine ⟨an_, ?_⟩; cbv))
   · cbv
     obtain rfl := oj h
     obtain rfl := hr2 _ rfl
     refine hKn1 _ _ _ rfl (.nz (.mtE [2] ?_))
     (cbv; repeat (refine ⟨an_, ?_⟩; cbv))
 obtain ⟨out5, rfl⟩ : ∃ z, z = t := ⟨_, rfl⟩
 cbv
 obtain rfl := oj h
 exact hK _ _ aw_
end Go.SX.Cl
namespace Go.SX.Cl
open Go Go.SX Go.Proofs
set_option maxRecDepth 100000
def c25r0 : List GOp := [
 gv 2 (.box 24 (.tmp 0)),
 gv 4 (.mv (.const (.int .i64 0)))]
def c25r1 : List GOp := [
 gv 5 (.mv (.const (.int .i64 1)))]
def c25r2 : List GOp := [
 gv 6 (.mv (.const (.int .i64 0)))]
def c25r3 : List GOp := [
 gv 7 (.mv (.tmp 6)),
 gv 8 (.bin .lss (.tmp 7) (.const (.int .i64 10)))]
def c25r4 : List GOp := [
 gv 11 (.mv (.tmp 5)),
 gv 12 (.load 1 true (.tmp 2)),
 gv 13 (.mv (.tmp 6)),
 gv 14 (.call 48 [(.tmp 12), (.tmp 13)]),
 gv 15 (.len false (.tmp 14)),
 gv 16 (.bin .mul (.tmp 11) (.tmp 15)),
 gv 5 (.mv (.tmp 16))]
def c25r5 : List GOp := [
 gv 17 (.mv (.tmp 5)),
 gv 18 (.mv (.tmp 1)),
 gv 19 (.bin .gtr (.tmp 17) (.tmp 18))]
def c25r6 : List GOp := [
 gv 20 (.mv (.tmp 1)),
 gv 21 (.bin .add (.tmp 20) (.const (.int .i64 1))),
 gv 4 (.mv (.tmp 21))]
def c25r7 : List GOp := [
 gv 9 (.mv (.tmp 6)),
 gv 10 (.bin .add (.tmp 9) (.const (.int .i64 1))),
 gv 6 (.mv (.tmp 10))]
def c25l8 : DE := .seq (.seq (.reg c25r3) (.cond (.tmp 8) (.skip) (.exit 0))) (.seq (.block 1 (.seq (.reg c25r4) (.seq (.reg c25r5) (.cond (.tmp 19) (.seq (.reg c25r6) (.ret)) (.skip))))) (.reg c25r7))
def c25r9 : List GOp := [
 gv 22 (.mv (.tmp 5)),
 gv 4 (.mv (.tmp 22))]
def c25 : EFn := ⟨23, .seq (.reg c25r0) (.seq (.reg c25r1) (.join (.seq (.reg c25r2) (.block 0 (.loop c25l8))) (.seq (.reg c25r9) (.ret)))), [.tmp 4]⟩
theorem c25_ok : compF Try.prog 25 = some c25.er := by kernel_rfl
noncomputable def ref16_Cells_l2 (p : Policy) (n : Int) : (Int × Int) → Option ((Int × Int) ⊕ ((Int) ⊕ (Int)))
 | (count2, a3) =>
 bif (io.lt a3 10) then (
 Option.bind (ref16_starts_g p a3) fun v4 =>
 bif (io.lt n (io.ar .mul .i64 count2 (io.len (W eIi64 v4)))) then (
 some (.inr (.inr (io.ar .add .i64 n 1)))
 ) else (
 some (.inl ((io.ar .mul .i64 count2 (io.len (W eIi64 v4))), (io.ar .add .i64 a3 1)))
 )
 ) else (
 some (.inr (.inl count2))
 )
noncomputable def ref16_Cells_g (p : Policy) (n : Int) : Option (Int) :=
 orR (
 whileG (ref16_Cells_l2 p n) (1, 0)
 ) fun count1 =>
 some count1
set_option maxHeartbeats 4000000 in
theorem ref16_Cells_R {P : Program} (hP : P = Try.prog) (p : Policy) (n : Int) (r : Int) (h : ref16_Cells_g p n = some r) : Fn1 P 25 [vPolicy p, vIi64 n] (vIi64 r) := by
 refine .walkE (hP ▸ c25_ok) fun K hK => ?_
 unfold ref16_Cells_g at h
 cbv
 refine .ga h (fun (count1 : Int) => rp 5 .top ++ [oi count1] ++ rp 17 .top) (fun (count1 : Int) => []) (fun y hm hr1 Kn1 hKn1 => ?_) fun t h => ?_
 · have h := hm
   clear hm
   cbv
   refine .g h (fun ((count2, a3) : Int × Int) => [.top, oi n, .ptr 0 0, .top, .top, oi count2, oi a3] ++ rp 16 .top) (fun ((count2, a3) : Int × Int) => [.cells [.d (.sl (W eRule p.Rules))] 24]) (.nz (.mtE [0] ?_)) fun s x h hr2 Kn2 hKn2 => ?_
   · (cbv; repeat (refine ⟨an_, ?_⟩; cbv))
   unfold ref16_Cells_l2 at h
   obtain ⟨count2, a3⟩ := s
   cbv
   refine brkG h ?_ ?_ <;> intro h
   · cbv
     refine .g h (fun v hv => ref16_starts_R hP _ _ v hv) aw_ rfl (fun _ => rfl) fun v4 h => ?_
     cbv
     refine brkG h ?_ ?_ <;> intro h
     · cbv
       obtain rfl := oj h
       obtain rfl := hr2 _ rfl
       obtain rfl := hr1 _ rfl
       exact hK _ _ aw_
     · cbv
       obtain rfl := oj h
       refine hKn2 _ _ _ rfl (.nz (.mtE [0] ?_))
       (cbv; repeat (refine ⟨an_, ?_⟩; cbv))
   · cbv
     obtain rfl := oj h
     obtain rfl := hr2 _ rfl
     refine hKn1 _ _ _ rfl (.nz (.mtE [] ?_))
     (cbv; repeat (refine ⟨an_, ?_⟩; cbv))
 obtain ⟨count1, rfl⟩ : ∃ z, z = t := ⟨_, rfl⟩
 cbv
 obtain rfl := oj h
 exact hK _ _ aw_
end Go.SX.Cl
namespace Go.SX.Cl
open Go Go.SX Go.Proofs
set_option maxRecDepth 100000
def c10r0 : List GOp := [
 gv 2 (.box 24 (.tmp 0)),
 gv 4 (.mv (.const (.bool false)))]
def c10r1 : List GOp := [
 gv 5 (.load 1 true (.tmp 2)),
 gv 6 (.mv (.tmp 1)),
 gv 7 (.call 24 [(.tmp 5), (.tmp 6)]),
 gv 8 (.mv (.tmp 7)),
 gw 9 8 true (.load 1 true (.tmp 2)),
 gw 10 8 true (.call 25 [(.tmp 9), (.const (.int .i64 3000))]),
 gw 11 8 true (.bin .leq (.tmp 10) (.const (.int .i64 3000))),
 gv 12 (.pick (.tmp 8) (.tmp 11) (.const (.bool false))),
 gv 4 (.mv (.tmp 12))]
def c10 : EFn := ⟨13, .seq (.reg c10r0) (.seq (.reg c10r1) (.ret)), [.tmp 4]⟩
theorem c10_ok : compF Try.prog 10 = some c10.er := by kernel_rfl
noncomputable def law16_few_g (p : Policy) (n : Int) : Option (Bool) :=
 Option.bind (ref13_Few_g p n) fun v1 =>
 bif v1 then (
 Option.bind (ref16_Cells_g p 3000) fun v2 =>
 some (io.le v2 3000)
 ) else (
 some false
 )
set_option maxHeartbeats 4000000 in
theorem law16_few_R {P : Program} (hP : P = Try.prog) (p : Policy) (n : Int) (r : Bool) (h : law16_few_g p n = some r) : Fn1 P 10 [vPolicy p, vIi64 n] (vB r) := by
 refine .walkE (hP ▸ c10_ok) fun K hK => ?_
 unfold law16_few_g at h
 cbv
 refine .g h (fun v hv => ref13_Few_R hP _ _ v hv) aw_ rfl (fun _ => rfl) fun v1 h => ?_
 cbv
 refine brkG h ?_ ?_ <;> intro h
 · cbv
   refine .g h (fun v hv => ref16_Cells_R hP _ _ v hv) aw_ rfl (fun _ => rfl) fun v2 h => ?_
   cbv
   obtain rfl := oj h
   exact hK _ _ aw_
 · cbv
   obtain rfl := oj h
   exact hK _ _ aw_
end Go.SX.Cl
