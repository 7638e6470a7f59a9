/- Parts of the proof. -/
import Derived.Test.YtllbabjgpdmblaaZClT
import Derived.Test.YtllbabjgpdmblaaZClDelete
import Derived.Test.YtllbabjgpdmblaaZCl52
set_option linter.unusedSimpArgs false
set_option linter.unusedVariables false
namespace Go.SX.Cl
open Go Go.SX Go.Proofs
set_option maxRecDepth 100000
def c50r0 : List GOp := [
 gv 4 (.mv (.const (.bool false)))]
def c50r1 : List GOp := [
 gv 5 (.mv (.tmp 0)),
 gv 6 (.mv (.tmp 1)),
 gv 7 (.call 65 [(.tmp 5), (.tmp 6)]),
 gv 8 (.bin .geq (.tmp 7) (.const (.int .i64 0))),
 gv 4 (.mv (.tmp 8))]
def c50 : EFn := ⟨9, .seq (.reg c50r0) (.seq (.reg c50r1) (.ret)), [.tmp 4]⟩
theorem c50_ok : compF Try.prog 50 = some c50.er := by kernel_rfl
def c65r0 : List GOp := [
 gv 4 (.mv (.const (.int .i64 0)))]
def c65r1 : List GOp := [
 gv 6 (.mv (.tmp 0)),
 gv 7 (.len false (.tmp 6)),
 gv 8 (.mv (.const (.int .i64 0)))]
def c65r2 : List GOp := [
 gv 9 (.bin .lss (.tmp 8) (.tmp 7))]
def c65r3 : List GOp := [
 gv 10 (.mv (.tmp 8)),
 gv 5 (.mv (.tmp 10))]
def c65r4 : List GOp := [
 gv 11 (.mv (.tmp 1)),
 gv 12 (.mv (.tmp 0)),
 gv 13 (.mv (.tmp 5)),
 gv 14 (.idxA 1 (.tmp 12) (.tmp 13)),
 gv 15 (.load 1 false (.tmp 14)),
 gv 16 (.callv (.tmp 11) [(.tmp 15)])]
def c65r5 : List GOp := [
 gv 17 (.mv (.tmp 5)),
 gv 4 (.mv (.tmp 17))]
def c65r6 : List GOp := [
 gv 18 (.bin .add (.tmp 8) (.const (.int .i64 1))),
 gv 8 (.mv (.tmp 18))]
def c65l7 : DE := .seq (.reg c65r2) (.seq (.cond (.tmp 9) (.skip) (.exit 0)) (.seq (.block 1 (.seq (.reg c65r3) (.join (.reg c65r4) (.cond (.tmp 16) (.seq (.reg c65r5) (.ret)) (.skip))))) (.reg c65r6)))
def c65r8 : List GOp := [
 gv 4 (.mv (.const (.int .i64 (-1))))]
def c65 : EFn := ⟨19, .seq (.reg c65r0) (.join (.seq (.reg c65r1) (.block 0 (.loop c65l7))) (.seq (.reg c65r8) (.ret))), [.tmp 4]⟩
theorem c65_ok : compF Try.prog 65 = some c65.er := by kernel_rfl
def c51r0 : List GOp := [
 gv 4 (.mv (.const (.bool false)))]
def c51r1 : List GOp := [
 gv 5 (.load 1 false (.tmp 1)),
 gv 6 (.nilck (.tmp 5)),
 gv 7 (.fadd 1 (.tmp 6)),
 gv 8 (.load 1 false (.tmp 7)),
 gv 9 (.mv (.tmp 0)),
 gv 10 (.idxA 21 (.tmp 8) (.tmp 9)),
 gv 11 (.fadd 0 (.tmp 10)),
 gv 12 (.load 1 false (.tmp 11)),
 gv 13 (.load 1 false (.tmp 2)),
 gv 14 (.bin .eql (.tmp 12) (.tmp 13)),
 gv 4 (.mv (.tmp 14))]
def c51 : EFn := ⟨15, .seq (.reg c51r0) (.seq (.par true true true 9 c51r1) (.ret)), [.tmp 4]⟩
theorem c51_ok : compF Try.prog 51 = some c51.er := by kernel_rfl
def c49r0 : List GOp := [
 gv 10 (.mv (.const (.bool false)))]
def c49r1 : List GOp := [
 gv 22 (.load 1 false (.tmp 2)),
 gv 23 (.len false (.tmp 22)),
 gv 24 (.mv (.const (.int .i64 0)))]
def c49r2 : List GOp := [
 gv 25 (.bin .lss (.tmp 24) (.tmp 23))]
def c49r3 : List GOp := [
 gv 26 (.idxA 1 (.tmp 22) (.tmp 24)),
 gv 27 (.load 1 false (.tmp 26)),
 gv 12 (.alloc 3 oz),
 ⟨none, .store 1 (.tmp 12) (.tmp 27), none⟩]
def c49r4 : List GOp := [
 gv 28 (.mv (.tmp 1)),
 gv 29 (.mkfn (.func 51) [] [(.tmp 3), (.tmp 12)]),
 gv 30 (.call 50 [(.tmp 28), (.tmp 29)]),
 gv 31 (.un .not (.tmp 30))]
def c49r5 : List GOp := [
 gv 10 (.mv (.const (.bool false)))]
def c49r6 : List GOp := [
 gv 32 (.bin .add (.tmp 24) (.const (.int .i64 1))),
 gv 24 (.mv (.tmp 32))]
def c49l7 : DE := .seq (.reg c49r2) (.seq (.cond (.tmp 25) (.skip) (.exit 0)) (.seq (.block 1 (.seq (.reg c49r3) (.join (.reg c49r4) (.cond (.tmp 31) (.seq (.reg c49r5) (.ret)) (.skip))))) (.reg c49r6)))
def c49r8 : List GOp := [
 gv 33 (.mv (.tmp 0)),
 gv 34 (.bin .eql (.tmp 33) (.const (.int .i64 10)))]
def c49r9 : List GOp := [
 gv 35 (.load 1 false (.tmp 4)),
 gv 36 (.load 10 true (.tmp 5)),
 gv 37 (.callv (.tmp 35) [(.tmp 36)]),
 gv 10 (.mv (.tmp 37))]
def c49r10 : List GOp := [
 gv 38 (.mv (.tmp 0)),
 gv 39 (.cvi .u8 (.tmp 38)),
 gv 40 (.bslice 5 1 1 (.int .u8 0) [(0, (.tmp 39))]),
 gv 13 (.mv (.tmp 40))]
def c49r11 : List GOp := [
 gv 41 (.mv (.tmp 1)),
 gv 42 (.len false (.tmp 41)),
 gv 43 (.mv (.const (.int .i64 0)))]
def c49r12 : List GOp := [
 gv 44 (.bin .lss (.tmp 43) (.tmp 42))]
def c49r13 : List GOp := [
 gv 45 (.idxA 1 (.tmp 41) (.tmp 43)),
 gv 46 (.load 1 false (.tmp 45)),
 gv 15 (.mv (.tmp 46))]
def c49r14 : List GOp := [
 gv 47 (.mv (.tmp 13)),
 gv 48 (.mv (.tmp 15)),
 gv 49 (.cvi .u8 (.tmp 48)),
 gv 50 (.mv (.tmp 15)),
 gv 51 (.bin .shr (.tmp 50) (.const (.int .u64 8))),
 gv 52 (.cvi .u8 (.tmp 51)),
 gv 53 (.mv (.tmp 15)),
 gv 54 (.bin .shr (.tmp 53) (.const (.int .u64 16))),
 gv 55 (.cvi .u8 (.tmp 54)),
 gv 56 (.bslice 5 1 3 (.int .u8 0) [(0, (.tmp 49)), (1, (.tmp 52)), (2, (.tmp 55))]),
 gv 57 (.app 5 1 1 (.int .u8 0) (.tmp 47) (.tmp 56)),
 gv 13 (.mv (.tmp 57))]
def c49r15 : List GOp := [
 gv 58 (.bin .add (.tmp 43) (.const (.int .i64 1))),
 gv 43 (.mv (.tmp 58))]
def c49l16 : DE := .seq (.reg c49r12) (.seq (.cond (.tmp 44) (.skip) (.exit 2)) (.seq (.block 3 (.seq (.reg c49r13) (.reg c49r14))) (.reg c49r15)))
def c49r17 : List GOp := [
 gv 59 (.load 1 false (.tmp 6)),
 gv 60 (.mv (.tmp 13)),
 gv 61 (.b2s (.tmp 60)),
 gv 62 (.mget .str false false (.bool false) (.tmp 59) (.tmp 61))]
def c49r18 : List GOp := [
 gv 10 (.mv (.const (.bool false)))]
def c49r19 : List GOp := [
 gv 63 (.load 1 false (.tmp 3)),
 gv 64 (.mv (.tmp 0)),
 gv 65 (.mv (.tmp 1)),
 gv 66 (.call 52 [(.tmp 63), (.tmp 64), (.tmp 65)]),
 gv 67 (.len false (.tmp 66)),
 gv 68 (.mv (.const (.int .i64 0)))]
def c49r20 : List GOp := [
 gv 69 (.bin .lss (.tmp 68) (.tmp 67))]
def c49r21 : List GOp := [
 gv 70 (.idxA 1 (.tmp 66) (.tmp 68)),
 gv 71 (.load 1 false (.tmp 70)),
 gv 17 (.mv (.tmp 71))]
def c49r22 : List GOp := [
 gv 72 (.mv (.tmp 0)),
 gv 73 (.mv (.tmp 17)),
 gv 74 (.idxP 10 1 (.tmp 5) (.tmp 72)),
 ⟨none, .store 1 (.tmp 74) (.tmp 73), none⟩]
def c49r23 : List GOp := [
 gv 18 (.mv (.const (.slice none 0 0)))]
def c49r24 : List GOp := [
 gv 75 (.mv (.tmp 1)),
 gv 76 (.len false (.tmp 75)),
 gv 77 (.mv (.const (.int .i64 0)))]
def c49r25 : List GOp := [
 gv 78 (.bin .lss (.tmp 77) (.tmp 76))]
def c49r26 : List GOp := [
 gv 79 (.idxA 1 (.tmp 75) (.tmp 77)),
 gv 80 (.load 1 false (.tmp 79)),
 gv 20 (.mv (.tmp 80))]
def c49r27 : List GOp := [
 gv 81 (.load 1 false (.tmp 3)),
 gv 82 (.nilck (.tmp 81)),
 gv 83 (.fadd 1 (.tmp 82)),
 gv 84 (.load 1 false (.tmp 83)),
 gv 85 (.mv (.tmp 20)),
 gv 86 (.mv (.tmp 0)),
 gv 87 (.idxA 21 (.tmp 84) (.tmp 85)),
 gv 88 (.fadd 1 (.tmp 87)),
 gv 89 (.idxP 10 2 (.tmp 88) (.tmp 86)),
 gv 90 (.load 2 true (.tmp 89)),
 gv 21 (.alloc 52 (.agg #[oz, oz])),
 ⟨none, .store 2 (.tmp 21) (.tmp 90), none⟩]
def c49r28 : List GOp := [
 gv 91 (.fadd 0 (.tmp 21)),
 gv 92 (.load 1 false (.tmp 91)),
 gv 93 (.mv (.tmp 17)),
 gv 94 (.bin .leq (.tmp 92) (.tmp 93)),
 gv 95 (.mv (.tmp 94)),
 gw 96 95 true (.mv (.tmp 17)),
 gw 97 95 true (.fadd 1 (.tmp 21)),
 gw 98 95 true (.load 1 false (.tmp 97)),
 gw 99 95 true (.bin .leq (.tmp 96) (.tmp 98)),
 gv 100 (.pick (.tmp 95) (.tmp 99) (.const (.bool false)))]
def c49r29 : List GOp := [
 gv 101 (.mv (.tmp 18)),
 gv 102 (.mv (.tmp 20)),
 gv 103 (.bslice 3 1 1 oz [(0, (.tmp 102))]),
 gv 104 (.app 3 1 8 oz (.tmp 101) (.tmp 103)),
 gv 18 (.mv (.tmp 104))]
def c49r30 : List GOp := [
 gv 105 (.bin .add (.tmp 77) (.const (.int .i64 1))),
 gv 77 (.mv (.tmp 105))]
def c49l31 : DE := .seq (.reg c49r25) (.seq (.cond (.tmp 78) (.skip) (.exit 6)) (.join (.block 7 (.seq (.reg c49r26) (.join (.reg c49r27) (.join (.reg c49r28) (.cond (.tmp 100) (.reg c49r29) (.skip)))))) (.reg c49r30)))
def c49r32 : List GOp := [
 gv 106 (.load 1 false (.tmp 7)),
 gv 107 (.mv (.tmp 0)),
 gv 108 (.bin .add (.tmp 107) (.const (.int .i64 1))),
 gv 109 (.mv (.tmp 18)),
 gv 110 (.callv (.tmp 106) [(.tmp 108), (.tmp 109)])]
def c49r33 : List GOp := [
 gv 10 (.mv (.const (.bool true)))]
def c49r34 : List GOp := [
 gv 111 (.bin .add (.tmp 68) (.const (.int .i64 1))),
 gv 68 (.mv (.tmp 111))]
def c49l35 : DE := .seq (.reg c49r20) (.seq (.cond (.tmp 69) (.skip) (.exit 4)) (.join (.block 5 (.seq (.reg c49r21) (.join (.reg c49r22) (.seq (.reg c49r23) (.join (.seq (.reg c49r24) (.block 6 (.loop c49l31))) (.join (.reg c49r32) (.cond (.tmp 110) (.seq (.reg c49r33) (.ret)) (.skip)))))))) (.reg c49r34)))
def c49r36 : List GOp := [
 gv 112 (.mv (.tmp 0)),
 gv 113 (.idxP 10 1 (.tmp 5) (.tmp 112)),
 ⟨none, .store 1 (.tmp 113) (.const (.int .i64 0)), none⟩]
def c49r37 : List GOp := [
 gv 114 (.load 1 false (.tmp 6)),
 gv 115 (.mv (.tmp 13)),
 gv 116 (.b2s (.tmp 115)),
 ⟨none, .mset .str false (.tmp 114) (.tmp 116) (.const (.bool true)), none⟩]
def c49r38 : List GOp := [
 gv 10 (.mv (.const (.bool false)))]
def c49 : EFn := ⟨117, .seq (.reg c49r0) (.join (.seq (.reg c49r1) (.block 0 (.loop c49l7))) (.seq (.seq (.reg c49r8) (.cond (.tmp 34) (.seq (.reg c49r9) (.ret)) (.skip))) (.seq (.reg c49r10) (.join (.seq (.reg c49r11) (.block 2 (.loop c49l16))) (.seq (.seq (.reg c49r17) (.cond (.tmp 62) (.seq (.reg c49r18) (.ret)) (.skip))) (.join (.seq (.reg c49r19) (.block 4 (.loop c49l35))) (.join (.reg c49r36) (.seq (.reg c49r37) (.seq (.reg c49r38) (.ret)))))))))), [.tmp 10]⟩
theorem c49_ok : compF Try.prog 49 = some c49.er := by kernel_rfl
noncomputable def search_accept_l26 (alive : (List Int)) (fd : Finder) (x2 : Int) : Int → Option ((Int) ⊕ ((Unit) ⊕ (Bool)))
 | v4 =>
 bif (io.lt v4 (io.len (W eIi64 alive))) then (
 Option.bind (
 Option.bind (idxG alive v4) fun x6 =>
 Option.bind (idxG fd.zones x6) fun x7 =>
 some (io.eq x7.rule x2)
 ) fun v5 =>
 bif v5 then (
 some (.inr (.inr (io.not (io.le 0 v4))))
 ) else (
 some (.inl (io.ar .add .i64 v4 1))
 )
 ) else (
 some (.inr (.inl ()))
 )
noncomputable def search_accept_l22 (need : (List Int)) (alive : (List Int)) (fd : Finder) (facts : (A10 Int)) (failed : (List (ByteArray × Bool))) : Int → Option ((Int) ⊕ ((Unit) ⊕ (Bool × (A10 Int) × (List (ByteArray × Bool)))))
 | v1 =>
 bif (io.lt v1 (io.len (W eIi64 need))) then (
 Option.bind (idxG need v1) fun x2 =>
 Option.bind (
 orR (
 whileG (search_accept_l26 alive fd x2) 0
 ) fun _ =>
 some (io.not (io.le 0 (-1)))
 ) fun v3 =>
 bif v3 then (
 some (.inr (.inr (false, facts, failed)))
 ) else (
 some (.inl (io.ar .add .i64 v1 1))
 )
 ) else (
 some (.inr (.inl ()))
 )
noncomputable def search_accept_l28 (alive : (List Int)) : ((List Int) × Int) → Option (((List Int) × Int) ⊕ ((List Int)))
 | (name11, v12) =>
 bif (io.lt v12 (io.len (W eIi64 alive))) then (
 Option.bind (idxG alive v12) fun x13 =>
 Option.bind (some [(io.wrap .u8 x13), (io.wrap .u8 (io.shr .i64 x13 (.ofNat 8))), (io.wrap .u8 (io.shr .i64 x13 (.ofNat 16)))]) fun l14 =>
 Option.bind (appG name11 l14) fun name15 =>
 some (.inl (name15, (io.ar .add .i64 v12 1)))
 ) else (
 some (.inr name11)
 )
noncomputable def search_accept_l54 (alive : (List Int)) (fd : Finder) (attr : Int) (x26 : Int) : ((List Int) × Int) → Option (((List Int) × Int) ⊕ ((List Int)))
 | (next30, v31) =>
 bif (io.lt v31 (io.len (W eIi64 alive))) then (
 Option.bind (
 Option.bind (idxG alive v31) fun x33 =>
 Option.bind (
 Option.bind (idxG fd.zones x33) fun x36 =>
 Option.bind (pixG 10 attr) fun i37 =>
 some ((x36.zone.get i37).Lo, (x36.zone.get i37).Hi)
 ) fun (Lo34, Hi35) =>
 Option.bind (
 bif (io.le Lo34 x26) then (
 some (io.le x26 Hi35)
 ) else (
 some false
 )
 ) fun v38 =>
 bif v38 then (
 Option.bind (some [x33]) fun l39 =>
 Option.bind (appG next30 l39) fun next40 =>
 some next40
 ) else (
 some next30
 )
 ) fun next32 =>
 some (.inl (next32, (io.ar .add .i64 v31 1)))
 ) else (
 some (.inr next30)
 )
noncomputable def search_accept_l50 (v20 : (List Int)) (attr : Int) (alive : (List Int)) (fd : Finder) (rec : (Int → List Int → (A10 Int) → (List (ByteArray × Bool)) → Option (Bool × (A10 Int) × (List (ByteArray × Bool))))) : ((List (ByteArray × Bool)) × (A10 Int) × Int) → Option (((List (ByteArray × Bool)) × (A10 Int) × Int) ⊕ (((List (ByteArray × Bool)) × (A10 Int)) ⊕ (Bool × (A10 Int) × (List (ByteArray × Bool)))))
 | (own21, c22, v23) =>
 bif (io.lt v23 (io.len (W eIi64 v20))) then (
 orR (
 Option.bind (idxG v20 v23) fun x26 =>
 Option.bind (
 Option.bind (pixG 10 attr) fun i28 =>
 some (c22.put i28 x26)
 ) fun c27 =>
 Option.bind (
 whileG (search_accept_l54 alive fd attr x26) ([], 0)
 ) fun next29 =>
 Option.bind (
 Option.bind (rec (io.ar .add .i64 attr 1) next29 c27 own21) fun r44 =>
 some (r44.2.2, r44.2.1, r44.1)
 ) fun (own41, c42, v43) =>
 bif v43 then (
 some (.inr (.inr (.inr (true, c42, own41))))
 ) else (
 some (.inl (own41, c42))
 )
 ) fun (own24, c25) =>
 some (.inl (own24, c25, (io.ar .add .i64 v23 1)))
 ) else (
 some (.inr (.inl (own21, c22)))
 )
noncomputable def search_accept_b (fd : Finder) (need : (List Int)) (rec : (Int → List Int → (A10 Int) → (List (ByteArray × Bool)) → Option (Bool × (A10 Int) × (List (ByteArray × Bool))))) (attr : Int) (alive : (List Int)) (facts : (A10 Int)) (failed : (List (ByteArray × Bool))) : Option (Bool × (A10 Int) × (List (ByteArray × Bool))) :=
 orR (
 whileG (search_accept_l22 need alive fd facts failed) 0
 ) fun _ =>
 bif (io.eq attr 10) then (
 Option.bind (clash_accept_g facts) fun v8 =>
 some (v8, facts, failed)
 ) else (
 Option.bind (some [(io.wrap .u8 attr)]) fun name9 =>
 Option.bind (
 whileG (search_accept_l28 alive) (name9, 0)
 ) fun name10 =>
 Option.bind (some (strOfNums name10)) fun z16 =>
 Option.bind (some (mlookD failed z16 false)) fun y17 =>
 bif y17 then (
 some (false, facts, failed)
 ) else (
 orR (
 Option.bind (clash_finder_cuts_g fd attr alive) fun v20 =>
 whileG (search_accept_l50 v20 attr alive fd rec) (failed, facts, 0)
 ) fun (own18, c19) =>
 Option.bind (
 Option.bind (pixG 10 attr) fun i46 =>
 some (c19.put i46 0)
 ) fun c45 =>
 Option.bind (some (strOfNums name10)) fun z47 =>
 Option.bind (some (mputG own18 z47 true)) fun m48 =>
 some (false, c45, m48)
 )
 )
set_option maxHeartbeats 8000000 in
theorem search_accept_R {P : Program} (hP : P = Try.prog) (fd : Finder) (need : (List Int)) (rec : (Int → List Int → (A10 Int) → (List (ByteArray × Bool)) → Option (Bool × (A10 Int) × (List (ByteArray × Bool))))) (attr : Int) (alive : (List Int)) (facts : (A10 Int)) (failed : (List (ByteArray × Bool))) (hrec : ∀ attr alive facts failed r, rec attr alive facts failed = some r → SCall P 49 [.cells [.fp (.sl (W eRule fd.policy.Rules) :: .sl (W eRanged fd.zones) :: cl fd.limits)] 59, .cells [.d (.sl (W eIi64 need))] 67, .cells [.clo (.func 28) [] []] 33, .mp .str false (WM Value.string eB failed), .cells [.hd 3] 81, .cells (ca facts) 32, .cells [.clo (.func 49) [] [.ptr 1 0, .ptr 0 0, .ptr 2 0, .ptr 5 0, .ptr 4 0, .ptr 6 0]] 85] [oi attr, .d (.sl (W eIi64 alive)), .ptr 1 0, .ptr 0 0, .ptr 2 0, .ptr 5 0, .ptr 4 0, .ptr 6 0] (fun sv own' => sv = ob r.1 ∧ own' = [.cells [.fp (.sl (W eRule fd.policy.Rules) :: .sl (W eRanged fd.zones) :: cl fd.limits)] 59, .cells [.d (.sl (W eIi64 need))] 67, .cells [.clo (.func 28) [] []] 33, .mp .str false (WM Value.string eB r.2.2), .cells [.hd 3] 81, .cells (ca r.2.1) 32, .cells [.clo (.func 49) [] [.ptr 1 0, .ptr 0 0, .ptr 2 0, .ptr 5 0, .ptr 4 0, .ptr 6 0]] 85])) (r : Bool × (A10 Int) × (List (ByteArray × Bool))) (h : search_accept_b fd need rec attr alive facts failed = some r) : SCall P 49 [.cells [.fp (.sl (W eRule fd.policy.Rules) :: .sl (W eRanged fd.zones) :: cl fd.limits)] 59, .cells [.d (.sl (W eIi64 need))] 67, .cells [.clo (.func 28) [] []] 33, .mp .str false (WM Value.string eB failed), .cells [.hd 3] 81, .cells (ca facts) 32, .cells [.clo (.func 49) [] [.ptr 1 0, .ptr 0 0, .ptr 2 0, .ptr 5 0, .ptr 4 0, .ptr 6 0]] 85] [oi attr, .d (.sl (W eIi64 alive)), .ptr 1 0, .ptr 0 0, .ptr 2 0, .ptr 5 0, .ptr 4 0, .ptr 6 0] (fun sv own' => sv = ob r.1 ∧ own' = [.cells [.fp (.sl (W eRule fd.policy.Rules) :: .sl (W eRanged fd.zones) :: cl fd.limits)] 59, .cells [.d (.sl (W eIi64 need))] 67, .cells [.clo (.func 28) [] []] 33, .mp .str false (WM Value.string eB r.2.2), .cells [.hd 3] 81, .cells (ca r.2.1) 32, .cells [.clo (.func 49) [] [.ptr 1 0, .ptr 0 0, .ptr 2 0, .ptr 5 0, .ptr 4 0, .ptr 6 0]] 85]) := by
 refine .walkT [0, 1, 2, 3, 4, 5, 6] 7 rfl rfl (by decide) (by decide) (hP ▸ c49_ok) fun K hK => ?_
 unfold search_accept_b at h
 cbv
 refine .ga h (fun (_ : Unit) => [oi attr, .d (.sl (W eIi64 alive)), .top, .ptr 0 0, .ptr 2 0, .ptr 5 0, .ptr 4 0, .ptr 6 0] ++ rp 109 .top) (fun (_ : Unit) => [.cells [.fp (.sl (W eRule fd.policy.Rules) :: .sl (W eRanged fd.zones) :: cl fd.limits)] 59, .cells [.d (.sl (W eIi64 need))] 67, .cells [.clo (.func 28) [] []] 33, .mp .str false (WM Value.string eB failed), .cells [.hd 3] 81, .cells (ca facts) 32, .cells [.clo (.func 49) [] [.ptr 1 0, .ptr 0 0, .ptr 2 0, .ptr 5 0, .ptr 4 0, .ptr 6 0]] 85]) (fun y hm hr1 Kn1 hKn1 => ?_) fun t h => ?_
 · have h := hm
   clear hm
   cbv
   refine .g h (fun (v1 : Int) => [oi attr, .d (.sl (W eIi64 alive)), .top, .ptr 0 0, .ptr 2 0, .ptr 5 0, .ptr 4 0, .ptr 6 0] ++ rp 14 .top ++ [.d (.sl (W eIi64 need)), oi (io.len (W eIi64 need)), oi v1] ++ rp 92 .top) (fun (v1 : Int) => [.cells [.fp (.sl (W eRule fd.policy.Rules) :: .sl (W eRanged fd.zones) :: cl fd.limits)] 59, .cells [.d (.sl (W eIi64 need))] 67, .cells [.clo (.func 28) [] []] 33, .mp .str false (WM Value.string eB failed), .cells [.hd 3] 81, .cells (ca facts) 32, .cells [.clo (.func 49) [] [.ptr 1 0, .ptr 0 0, .ptr 2 0, .ptr 5 0, .ptr 4 0, .ptr 6 0]] 85]) (.nz (.mtE [0, 1, 2, 3, 4, 5, 6] ?_)) fun s x h hr2 Kn2 hKn2 => ?_
   · (cbv; repeat (refine ⟨an_, ?_⟩; cbv))
   unfold search_accept_l22 at h
   obtain ⟨v1, rfl⟩ : ∃ z, z = s := ⟨_, rfl⟩
   cbv
   refine brkG h ?_ ?_ <;> intro h
   · cbv
     refine .g h (fun _ => rfl) fun x2 h => ?_
     cbv
     refine .g h (fun (v3 : Bool) => [oi attr, .d (.sl (W eIi64 alive)), .top, .ptr 0 0, .ptr 2 0, .ptr 5 0, .ptr 4 0, .ptr 6 0] ++ rp 14 .top ++ [.d (.sl (W eIi64 need)), oi (io.len (W eIi64 need)), oi v1] ++ rp 6 .top ++ [ob v3] ++ rp 85 .top) (fun (v3 : Bool) => [.cells [.fp (.sl (W eRule fd.policy.Rules) :: .sl (W eRanged fd.zones) :: cl fd.limits)] 59, .cells [.d (.sl (W eIi64 need))] 67, .cells [.clo (.func 28) [] []] 33, .mp .str false (WM Value.string eB failed), .cells [.hd 3] 81, .cells (ca facts) 32, .cells [.clo (.func 49) [] [.ptr 1 0, .ptr 0 0, .ptr 2 0, .ptr 5 0, .ptr 4 0, .ptr 6 0]] 85]) (fun y hm Kn3 hKn3 => ?_) fun t h => ?_
     · have h := hm
       clear hm
       cbv
       refine .inl (hP ▸ c50_ok) ?_
       cbv
       refine .inl (hP ▸ c65_ok) ?_
       cbv
       refine .ga h (fun (_ : Unit) => rp 19 .top) (fun (_ : Unit) => [.cells [.fp (.sl (W eRule fd.policy.Rules) :: .sl (W eRanged fd.zones) :: cl fd.limits)] 59, .cells [.d (.sl (W eIi64 need))] 67, .cells [.clo (.func 28) [] []] 33, .mp .str false (WM Value.string eB failed), .cells [.hd 3] 81, .cells (ca facts) 32, .cells [.clo (.func 49) [] [.ptr 1 0, .ptr 0 0, .ptr 2 0, .ptr 5 0, .ptr 4 0, .ptr 6 0]] 85, .cells [oi x2] 3]) (fun y hm hr4 Kn4 hKn4 => ?_) fun t h => ?_
       · have h := hm
         clear hm
         cbv
         refine .g h (fun (v4 : Int) => [.d (.sl (W eIi64 alive)), .clo (.func 51) [] [.ptr 0 0, .ptr 7 0]] ++ rp 5 .top ++ [oi (io.len (W eIi64 alive)), oi v4] ++ rp 10 .top) (fun (v4 : Int) => [.cells [.fp (.sl (W eRule fd.policy.Rules) :: .sl (W eRanged fd.zones) :: cl fd.limits)] 59, .cells [.d (.sl (W eIi64 need))] 67, .cells [.clo (.func 28) [] []] 33, .mp .str false (WM Value.string eB failed), .cells [.hd 3] 81, .cells (ca facts) 32, .cells [.clo (.func 49) [] [.ptr 1 0, .ptr 0 0, .ptr 2 0, .ptr 5 0, .ptr 4 0, .ptr 6 0]] 85, .cells [oi x2] 3]) (.nz (.mtE [0, 1, 2, 3, 4, 5, 6, 7] ?_)) fun s x h hr5 Kn5 hKn5 => ?_
         · (cbv; repeat (refine ⟨an_, ?_⟩; cbv))
         unfold search_accept_l26 at h
         obtain ⟨v4, rfl⟩ : ∃ z, z = s := ⟨_, rfl⟩
         cbv
         refine brkG h ?_ ?_ <;> intro h
         · cbv
           refine .g h (fun (v5 : Bool) => [.d (.sl (W eIi64 alive)), .clo (.func 51) [] [.ptr 0 0, .ptr 7 0]] ++ rp 3 .top ++ [oi v4, .top, oi (io.len (W eIi64 alive)), oi v4] ++ rp 7 .top ++ [ob v5, .top, .top]) (fun (v5 : Bool) => [.cells [.fp (.sl (W eRule fd.policy.Rules) :: .sl (W eRanged fd.zones) :: cl fd.limits)] 59, .cells [.d (.sl (W eIi64 need))] 67, .cells [.clo (.func 28) [] []] 33, .mp .str false (WM Value.string eB failed), .cells [.hd 3] 81, .cells (ca facts) 32, .cells [.clo (.func 49) [] [.ptr 1 0, .ptr 0 0, .ptr 2 0, .ptr 5 0, .ptr 4 0, .ptr 6 0]] 85, .cells [oi x2] 3]) (fun y hm Kn6 hKn6 => ?_) fun t h => ?_
           · have h := hm
             clear hm
             cbv
             refine .g h (fun _ => rfl) fun x6 h => ?_
             cbv
             refine .inl (hP ▸ c51_ok) ?_
             cbv
             refine .g h (fun _ => rfl) fun x7 h => ?_
             cbv
             obtain rfl := oj h
             refine hKn6 _ _ _ rfl (.nz (.mtE [0, 1, 2, 3, 4, 5, 6, 7] ?_))
             (cbv; repeat (refine ⟨an_, ?_⟩; cbv))
           obtain ⟨v5, rfl⟩ : ∃ z, z = t := ⟨_, rfl⟩
           cbv
           refine brkG h ?_ ?_ <;> intro h
           · cbv
             obtain rfl := oj h
             obtain rfl := hr5 _ rfl
             obtain rfl := hr4 _ rfl
             refine hKn3 _ _ _ rfl (.nz (.mtE [0, 1, 2, 3, 4, 5, 6] ?_))
             (cbv; repeat (refine ⟨an_, ?_⟩; cbv))
           · cbv
             obtain rfl := oj h
             refine hKn5 _ _ _ rfl (.nz (.mtE [0, 1, 2, 3, 4, 5, 6, 7] ?_))
             (cbv; repeat (refine ⟨an_, ?_⟩; cbv))
         · cbv
           obtain rfl := oj h
           obtain rfl := hr5 _ rfl
           refine hKn4 _ _ _ rfl (.nz (.mtE [0, 1, 2, 3, 4, 5, 6, 7] ?_))
           (cbv; repeat (refine ⟨an_, ?_⟩; cbv))
       cbv
       obtain rfl := oj h
       refine hKn3 _ _ _ rfl (.nz (.mtE [0, 1, 2, 3, 4, 5, 6] ?_))
       (cbv; repeat (refine ⟨an_, ?_⟩; cbv))
     obtain ⟨v3, rfl⟩ : ∃ z, z = t := ⟨_, rfl⟩
     cbv
     refine brkG h ?_ ?_ <;> intro h
     · cbv
       obtain rfl := oj h
       obtain rfl := hr2 _ rfl
       obtain rfl := hr1 _ rfl
       refine hK _ _ ?_
       (cbv; repeat (refine ⟨an_, ?_⟩; cbv))
     · cbv
       obtain rfl := oj h
       refine hKn2 _ _ _ rfl (.nz (.mtE [0, 1, 2, 3, 4, 5, 6] ?_))
       (cbv; repeat (refine ⟨an_, ?_⟩; cbv))
   · cbv
     obtain rfl := oj h
     obtain rfl := hr2 _ rfl
     refine hKn1 _ _ _ rfl (.nz (.mtE [0, 1, 2, 3, 4, 5, 6] ?_))
     (cbv; repeat (refine ⟨an_, ?_⟩; cbv))
 cbv
 refine brkG h ?_ ?_ <;> intro h
 · cbv
   refine .g h (fun v hv => clash_accept_R hP _ v hv) aw_ rfl (fun _ => rfl) fun v8 h => ?_
   cbv
   obtain rfl := oj h
   refine hK _ _ ?_
   (cbv; repeat (refine ⟨an_, ?_⟩; cbv))
 · cbv
   refine .g (e := eIu8) h (W_cons aw_ (W_nil' _)) fun name9 h => ?_
   cbv
   refine .g h (fun (name10 : (List Int)) => [oi attr, .d (.sl (W eIi64 alive)), .top, .ptr 0 0, .top, .ptr 5 0, .ptr 4 0, .ptr 6 0] ++ rp 5 .top ++ [.hd 7] ++ rp 103 .top) (fun (name10 : (List Int)) => [.cells [.fp (.sl (W eRule fd.policy.Rules) :: .sl (W eRanged fd.zones) :: cl fd.limits)] 59, .cells [.d (.sl (W eIi64 need))] 67, .cells [.clo (.func 28) [] []] 33, .mp .str false (WM Value.string eB failed), .cells [.hd 3] 81, .cells (ca facts) 32, .cells [.clo (.func 49) [] [.ptr 1 0, .ptr 0 0, .ptr 2 0, .ptr 5 0, .ptr 4 0, .ptr 6 0]] 85, .row 5 1 (W eIu8 name10)]) (fun y hm Kn1 hKn1 => ?_) fun t h => ?_
   · have h := hm
     clear hm
     cbv
     refine .g h (fun ((name11, v12) : (List Int) × Int) => [oi attr, .d (.sl (W eIi64 alive)), .top, .ptr 0 0, .top, .ptr 5 0, .ptr 4 0, .ptr 6 0] ++ rp 5 .top ++ [.hd 7] ++ rp 27 .top ++ [.d (.sl (W eIi64 alive)), oi (io.len (W eIi64 alive)), oi v12] ++ rp 73 .top) (fun ((name11, v12) : (List Int) × Int) => [.cells [.fp (.sl (W eRule fd.policy.Rules) :: .sl (W eRanged fd.zones) :: cl fd.limits)] 59, .cells [.d (.sl (W eIi64 need))] 67, .cells [.clo (.func 28) [] []] 33, .mp .str false (WM Value.string eB failed), .cells [.hd 3] 81, .cells (ca facts) 32, .cells [.clo (.func 49) [] [.ptr 1 0, .ptr 0 0, .ptr 2 0, .ptr 5 0, .ptr 4 0, .ptr 6 0]] 85, .row 5 1 (W eIu8 name11)]) (.nz (.mtE [0, 1, 2, 3, 4, 5, 6, 7] ?_)) fun s x h hr2 Kn2 hKn2 => ?_
     · (cbv; repeat (refine ⟨an_, ?_⟩; cbv))
     unfold search_accept_l28 at h
     obtain ⟨name11, v12⟩ := s
     cbv
     refine brkG h ?_ ?_ <;> intro h
     · cbv
       refine .g h (fun _ => rfl) fun x13 h => ?_
       cbv
       refine .g (e := eIu8) h (W_cons aw_ (W_cons aw_ (W_cons aw_ (W_nil' _)))) fun l14 h => ?_
       cbv
       refine .g h rfl (fun _ => rfl) (by decide) fun name15 h => ?_
       cbv
       obtain rfl := oj h
       refine hKn2 _ _ _ rfl (.nz (.mtE [0, 1, 2, 3, 4, 5, 6, 9] ?_))
       (cbv; repeat (refine ⟨an_, ?_⟩; cbv))
     · cbv
       obtain rfl := oj h
       obtain rfl := hr2 _ rfl
       refine hKn1 _ _ _ rfl (.nz (.mtE [0, 1, 2, 3, 4, 5, 6, 7] ?_))
       (cbv; repeat (refine ⟨an_, ?_⟩; cbv))
   obtain ⟨name10, rfl⟩ : ∃ z, z = t := ⟨_, rfl⟩
   cbv
   refine .g (e := eIu8) h (fun _ => rfl) (by first | rfl | exact W_nil' _) fun z16 h => ?_
   cbv
   refine .gs (e := eB) h (by first | rfl | exact WM_nil' _ _) (fun h => h) fun y17 h => ?_
   cbv
   refine brkG h ?_ ?_ <;> intro h
   · cbv
     obtain rfl := oj h
     refine hK _ _ ?_
     (cbv; repeat (refine ⟨an_, ?_⟩; cbv))
   · cbv
     refine .ga h (fun ((own18, c19) : (List (ByteArray × Bool)) × (A10 Int)) => [oi attr] ++ rp 4 .top ++ [.ptr 5 0, .ptr 4 0] ++ rp 6 .top ++ [.hd 7] ++ rp 103 .top) (fun ((own18, c19) : (List (ByteArray × Bool)) × (A10 Int)) => [.cells [.fp (.sl (W eRule fd.policy.Rules) :: .sl (W eRanged fd.zones) :: cl fd.limits)] 59, .cells [.d (.sl (W eIi64 need))] 67, .cells [.clo (.func 28) [] []] 33, .mp .str false (WM Value.string eB own18), .cells [.hd 3] 81, .cells (ca c19) 32, .cells [.clo (.func 49) [] [.ptr 1 0, .ptr 0 0, .ptr 2 0, .ptr 5 0, .ptr 4 0, .ptr 6 0]] 85, .row 5 1 (W eIu8 name10)]) (fun y hm hr1 Kn1 hKn1 => ?_) fun t h => ?_
     · have h := hm
       clear hm
       cbv
       refine .g h (fun v hv => clash_finder_cuts_R hP _ _ _ v hv) aw_ rfl (fun _ => rfl) fun v20 h => ?_
       cbv
       refine .g h (fun ((own21, c22, v23) : (List (ByteArray × Bool)) × (A10 Int) × Int) => [oi attr, .d (.sl (W eIi64 alive)), .top, .ptr 0 0, .top, .ptr 5 0, .ptr 4 0, .ptr 6 0] ++ rp 5 .top ++ [.hd 7] ++ rp 52 .top ++ [.d (.sl (W eIi64 v20)), oi (io.len (W eIi64 v20)), oi v23] ++ rp 48 .top) (fun ((own21, c22, v23) : (List (ByteArray × Bool)) × (A10 Int) × Int) => [.cells [.fp (.sl (W eRule fd.policy.Rules) :: .sl (W eRanged fd.zones) :: cl fd.limits)] 59, .cells [.d (.sl (W eIi64 need))] 67, .cells [.clo (.func 28) [] []] 33, .mp .str false (WM Value.string eB own21), .cells [.hd 3] 81, .cells (ca c22) 32, .cells [.clo (.func 49) [] [.ptr 1 0, .ptr 0 0, .ptr 2 0, .ptr 5 0, .ptr 4 0, .ptr 6 0]] 85, .row 5 1 (W eIu8 name10)]) (.nz (.mtE [0, 1, 2, 3, 4, 5, 6, 7] ?_)) fun s x h hr2 Kn2 hKn2 => ?_
       · (cbv; repeat (refine ⟨an_, ?_⟩; cbv))
       unfold search_accept_l50 at h
       obtain ⟨own21, c22, v23⟩ := s
       cbv
       refine brkG h ?_ ?_ <;> intro h
       · cbv
         refine .ga h (fun ((own24, c25) : (List (ByteArray × Bool)) × (A10 Int)) => [oi attr, .d (.sl (W eIi64 alive)), .top, .ptr 0 0, .top, .ptr 5 0, .ptr 4 0, .ptr 6 0] ++ rp 5 .top ++ [.hd 7] ++ rp 52 .top ++ [.d (.sl (W eIi64 v20)), oi (io.len (W eIi64 v20)), oi v23] ++ rp 48 .top) (fun ((own24, c25) : (List (ByteArray × Bool)) × (A10 Int)) => [.cells [.fp (.sl (W eRule fd.policy.Rules) :: .sl (W eRanged fd.zones) :: cl fd.limits)] 59, .cells [.d (.sl (W eIi64 need))] 67, .cells [.clo (.func 28) [] []] 33, .mp .str false (WM Value.string eB own24), .cells [.hd 3] 81, .cells (ca c25) 32, .cells [.clo (.func 49) [] [.ptr 1 0, .ptr 0 0, .ptr 2 0, .ptr 5 0, .ptr 4 0, .ptr 6 0]] 85, .row 5 1 (W eIu8 name10)]) (fun y hm hr3 Kn3 hKn3 => ?_) fun t h => ?_
         · have h := hm
           clear hm
           cbv
           refine .g h (fun _ => rfl) fun x26 h => ?_
           cbv
           refine .g h (fun (c27 : (A10 Int)) => [oi attr, .d (.sl (W eIi64 alive)), .top, .ptr 0 0, .top, .ptr 5 0, .ptr 4 0, .ptr 6 0] ++ rp 5 .top ++ [.hd 7] ++ rp 3 .top ++ [oi x26] ++ rp 48 .top ++ [.d (.sl (W eIi64 v20)), oi (io.len (W eIi64 v20)), oi v23] ++ rp 48 .top) (fun (c27 : (A10 Int)) => [.cells [.fp (.sl (W eRule fd.policy.Rules) :: .sl (W eRanged fd.zones) :: cl fd.limits)] 59, .cells [.d (.sl (W eIi64 need))] 67, .cells [.clo (.func 28) [] []] 33, .mp .str false (WM Value.string eB own21), .cells [.hd 3] 81, .cells (ca c27) 32, .cells [.clo (.func 49) [] [.ptr 1 0, .ptr 0 0, .ptr 2 0, .ptr 5 0, .ptr 4 0, .ptr 6 0]] 85, .row 5 1 (W eIu8 name10)]) (fun y hm Kn4 hKn4 => ?_) fun t h => ?_
           · have h := hm
             clear hm
             cbv
             refine .c10 h ?_ ?_ ?_ ?_ ?_ ?_ ?_ ?_ ?_ ?_ <;> (
               intro hni28 h
               cbv
               obtain rfl := oj h
               refine hKn4 _ _ _ rfl (.nz (.mtE [0, 1, 2, 3, 4, 5, 6, 7] ?_))
               (cbv; repeat (refine ⟨an_, ?_⟩; cbv))
               )
           obtain ⟨c27, rfl⟩ : ∃ z, z = t := ⟨_, rfl⟩
           cbv
           refine .g h (fun (next29 : (List Int)) => [oi attr, .d (.sl (W eIi64 alive)), .top, .ptr 0 0, .top, .ptr 5 0, .ptr 4 0, .ptr 6 0] ++ rp 5 .top ++ [.hd 7] ++ rp 4 .top ++ [.hd 8] ++ rp 47 .top ++ [.d (.sl (W eIi64 v20)), oi (io.len (W eIi64 v20)), oi v23] ++ rp 48 .top) (fun (next29 : (List Int)) => [.cells [.fp (.sl (W eRule fd.policy.Rules) :: .sl (W eRanged fd.zones) :: cl fd.limits)] 59, .cells [.d (.sl (W eIi64 need))] 67, .cells [.clo (.func 28) [] []] 33, .mp .str false (WM Value.string eB own21), .cells [.hd 3] 81, .cells (ca c27) 32, .cells [.clo (.func 49) [] [.ptr 1 0, .ptr 0 0, .ptr 2 0, .ptr 5 0, .ptr 4 0, .ptr 6 0]] 85, .row 5 1 (W eIu8 name10), .row 3 1 (W eIi64 next29)]) (fun y hm Kn4 hKn4 => ?_) fun t h => ?_
           · have h := hm
             clear hm
             cbv
             refine .g h (fun ((next30, v31) : (List Int) × Int) => [oi attr, .d (.sl (W eIi64 alive)), .top, .ptr 0 0, .top, .ptr 5 0, .ptr 4 0, .ptr 6 0] ++ rp 5 .top ++ [.hd 7] ++ rp 3 .top ++ [oi x26, .hd 8] ++ rp 47 .top ++ [.d (.sl (W eIi64 v20)), oi (io.len (W eIi64 v20)), oi v23] ++ rp 6 .top ++ [.d (.sl (W eIi64 alive)), oi (io.len (W eIi64 alive)), oi v31] ++ rp 39 .top) (fun ((next30, v31) : (List Int) × Int) => [.cells [.fp (.sl (W eRule fd.policy.Rules) :: .sl (W eRanged fd.zones) :: cl fd.limits)] 59, .cells [.d (.sl (W eIi64 need))] 67, .cells [.clo (.func 28) [] []] 33, .mp .str false (WM Value.string eB own21), .cells [.hd 3] 81, .cells (ca c27) 32, .cells [.clo (.func 49) [] [.ptr 1 0, .ptr 0 0, .ptr 2 0, .ptr 5 0, .ptr 4 0, .ptr 6 0]] 85, .row 5 1 (W eIu8 name10), .row 3 1 (W eIi64 next30)]) (.nilr 18 3 1 rfl (.nz (.mtE [0, 1, 2, 3, 4, 5, 6, 7, 8] ?_))) fun s x h hr5 Kn5 hKn5 => ?_
             · (cbv; repeat (refine ⟨an_, ?_⟩; cbv))
             unfold search_accept_l54 at h
             obtain ⟨next30, v31⟩ := s
             cbv
             refine brkG h ?_ ?_ <;> intro h
             · cbv
               refine .g h (fun (next32 : (List Int)) => [oi attr, .d (.sl (W eIi64 alive)), .top, .ptr 0 0, .top, .ptr 5 0, .ptr 4 0, .ptr 6 0] ++ rp 5 .top ++ [.hd 7] ++ rp 3 .top ++ [oi x26, .hd 8] ++ rp 47 .top ++ [.d (.sl (W eIi64 v20)), oi (io.len (W eIi64 v20)), oi v23] ++ rp 6 .top ++ [.d (.sl (W eIi64 alive)), oi (io.len (W eIi64 alive)), oi v31] ++ rp 39 .top) (fun (next32 : (List Int)) => [.cells [.fp (.sl (W eRule fd.policy.Rules) :: .sl (W eRanged fd.zones) :: cl fd.limits)] 59, .cells [.d (.sl (W eIi64 need))] 67, .cells [.clo (.func 28) [] []] 33, .mp .str false (WM Value.string eB own21), .cells [.hd 3] 81, .cells (ca c27) 32, .cells [.clo (.func 49) [] [.ptr 1 0, .ptr 0 0, .ptr 2 0, .ptr 5 0, .ptr 4 0, .ptr 6 0]] 85, .row 5 1 (W eIu8 name10), .row 3 1 (W eIi64 next32)]) (fun y hm Kn6 hKn6 => ?_) fun t h => ?_
               · have h := hm
                 clear hm
                 cbv
                 refine .g h (fun _ => rfl) fun x33 h => ?_
                 cbv
                 refine .g h (fun ((Lo34, Hi35) : Int × Int) => [oi attr, .d (.sl (W eIi64 alive)), .top, .ptr 0 0, .top, .ptr 5 0, .ptr 4 0, .ptr 6 0] ++ rp 5 .top ++ [.hd 7] ++ rp 3 .top ++ [oi x26, .hd 8, .top, oi x33, .ptr 9 0] ++ rp 44 .top ++ [.d (.sl (W eIi64 v20)), oi (io.len (W eIi64 v20)), oi v23] ++ rp 6 .top ++ [.d (.sl (W eIi64 alive)), oi (io.len (W eIi64 alive)), oi v31] ++ rp 39 .top) (fun ((Lo34, Hi35) : Int × Int) => [.cells [.fp (.sl (W eRule fd.policy.Rules) :: .sl (W eRanged fd.zones) :: cl fd.limits)] 59, .cells [.d (.sl (W eIi64 need))] 67, .cells [.clo (.func 28) [] []] 33, .mp .str false (WM Value.string eB own21), .cells [.hd 3] 81, .cells (ca c27) 32, .cells [.clo (.func 49) [] [.ptr 1 0, .ptr 0 0, .ptr 2 0, .ptr 5 0, .ptr 4 0, .ptr 6 0]] 85, .row 5 1 (W eIu8 name10), .row 3 1 (W eIi64 next30), .cells [oi Lo34, oi Hi35] 52]) (fun y hm Kn7 hKn7 => ?_) fun t h => ?_
                 · have h := hm
                   clear hm
                   cbv
                   refine .g h (fun _ => rfl) fun x36 h => ?_
                   cbv
                   refine .c10 h ?_ ?_ ?_ ?_ ?_ ?_ ?_ ?_ ?_ ?_ <;> (
                     intro hni37 h
                     cbv
                     obtain rfl := oj h
                     refine hKn7 _ _ _ rfl (.nz (.mtE [0, 1, 2, 3, 4, 5, 6, 7, 8, 9] ?_))
                     (cbv; repeat (refine ⟨an_, ?_⟩; cbv))
                     )
                 obtain ⟨Lo34, Hi35⟩ := t
                 cbv
                 refine .g h (fun (v38 : Bool) => [oi attr, .d (.sl (W eIi64 alive)), .top, .ptr 0 0, .top, .ptr 5 0, .ptr 4 0, .ptr 6 0] ++ rp 5 .top ++ [.hd 7] ++ rp 3 .top ++ [oi x26, .hd 8, .top, oi x33] ++ rp 45 .top ++ [.d (.sl (W eIi64 v20)), oi (io.len (W eIi64 v20)), oi v23] ++ rp 6 .top ++ [.d (.sl (W eIi64 alive)), oi (io.len (W eIi64 alive)), oi v31] ++ rp 22 .top ++ [ob v38] ++ rp 16 .top) (fun (v38 : Bool) => [.cells [.fp (.sl (W eRule fd.policy.Rules) :: .sl (W eRanged fd.zones) :: cl fd.limits)] 59, .cells [.d (.sl (W eIi64 need))] 67, .cells [.clo (.func 28) [] []] 33, .mp .str false (WM Value.string eB own21), .cells [.hd 3] 81, .cells (ca c27) 32, .cells [.clo (.func 49) [] [.ptr 1 0, .ptr 0 0, .ptr 2 0, .ptr 5 0, .ptr 4 0, .ptr 6 0]] 85, .row 5 1 (W eIu8 name10), .row 3 1 (W eIi64 next30)]) (fun y hm Kn7 hKn7 => ?_) fun t h => ?_
                 · have h := hm
                   clear hm
                   cbv
                   refine brkG h ?_ ?_ <;> intro h
                   · cbv
                     obtain rfl := oj h
                     refine hKn7 _ _ _ rfl (.nz (.mtE [0, 1, 2, 3, 4, 5, 6, 7, 8] ?_))
                     (cbv; repeat (refine ⟨an_, ?_⟩; cbv))
                   · cbv
                     obtain rfl := oj h
                     refine hKn7 _ _ _ rfl (.nz (.mtE [0, 1, 2, 3, 4, 5, 6, 7, 8] ?_))
                     (cbv; repeat (refine ⟨an_, ?_⟩; cbv))
                 obtain ⟨v38, rfl⟩ : ∃ z, z = t := ⟨_, rfl⟩
                 cbv
                 refine brkG h ?_ ?_ <;> intro h
                 · cbv
                   refine .g (e := eIi64) h (W_cons aw_ (W_nil' _)) fun l39 h => ?_
                   cbv
                   refine .g h rfl (fun _ => rfl) (by decide) fun next40 h => ?_
                   cbv
                   obtain rfl := oj h
                   refine hKn6 _ _ _ rfl (.nz (.mtE [0, 1, 2, 3, 4, 5, 6, 7, 10] ?_))
                   (cbv; repeat (refine ⟨an_, ?_⟩; cbv))
                 · cbv
                   obtain rfl := oj h
                   refine hKn6 _ _ _ rfl (.nz (.mtE [0, 1, 2, 3, 4, 5, 6, 7, 8] ?_))
                   (cbv; repeat (refine ⟨an_, ?_⟩; cbv))
               obtain ⟨next32, rfl⟩ : ∃ z, z = t := ⟨_, rfl⟩
               cbv
               obtain rfl := oj h
               refine hKn5 _ _ _ rfl (.nz (.mtE [0, 1, 2, 3, 4, 5, 6, 7, 8] ?_))
               (cbv; repeat (refine ⟨an_, ?_⟩; cbv))
             · cbv
               obtain rfl := oj h
               obtain rfl := hr5 _ rfl
               refine hKn4 _ _ _ rfl (.nz (.mtE [0, 1, 2, 3, 4, 5, 6, 7, 8] ?_))
               (cbv; repeat (refine ⟨an_, ?_⟩; cbv))
           obtain ⟨next29, rfl⟩ : ∃ z, z = t := ⟨_, rfl⟩
           cbv
           refine .g h (fun ((own41, c42, v43) : (List (ByteArray × Bool)) × (A10 Int) × Bool) => [oi attr, .d (.sl (W eIi64 alive)), .top, .ptr 0 0, .top, .ptr 5 0, .ptr 4 0, .ptr 6 0] ++ rp 5 .top ++ [.hd 7] ++ rp 52 .top ++ [.d (.sl (W eIi64 v20)), oi (io.len (W eIi64 v20)), oi v23] ++ rp 41 .top ++ [ob v43] ++ rp 6 .top) (fun ((own41, c42, v43) : (List (ByteArray × Bool)) × (A10 Int) × Bool) => [.cells [.fp (.sl (W eRule fd.policy.Rules) :: .sl (W eRanged fd.zones) :: cl fd.limits)] 59, .cells [.d (.sl (W eIi64 need))] 67, .cells [.clo (.func 28) [] []] 33, .mp .str false (WM Value.string eB own41), .cells [.hd 3] 81, .cells (ca c42) 32, .cells [.clo (.func 49) [] [.ptr 1 0, .ptr 0 0, .ptr 2 0, .ptr 5 0, .ptr 4 0, .ptr 6 0]] 85, .row 5 1 (W eIu8 name10)]) (fun y hm Kn4 hKn4 => ?_) fun t h => ?_
           · have h := hm
             clear hm
             cbv
             obtain ⟨r44, hm, h⟩ := Option.bind_eq_some_iff.1 h
             refine .embL [0, 1, 2, 3, 4, 5, 6] (hrec _ _ _ _ _ hm) (by (cbv; repeat (refine ⟨an_, ?_⟩; cbv))) fun sv0 own0 hq _ => ?_
             obtain ⟨rfl, rfl⟩ := hq
             clear hm
             cbv
             obtain rfl := oj h
             refine hKn4 _ _ _ rfl (.nz (.mtE [0, 1, 2, 3, 4, 5, 6, 7] ?_))
             (cbv; repeat (refine ⟨an_, ?_⟩; cbv))
           obtain ⟨own41, c42, v43⟩ := t
           cbv
           refine brkG h ?_ ?_ <;> intro h
           · cbv
             obtain rfl := oj h
             obtain rfl := hr3 _ rfl
             obtain rfl := hr2 _ rfl
             obtain rfl := hr1 _ rfl
             refine hK _ _ ?_
             (cbv; repeat (refine ⟨an_, ?_⟩; cbv))
           · cbv
             obtain rfl := oj h
             refine hKn3 _ _ _ rfl (.nz (.mtE [0, 1, 2, 3, 4, 5, 6, 7] ?_))
             (cbv; repeat (refine ⟨an_, ?_⟩; cbv))
         obtain ⟨own24, c25⟩ := t
         cbv
         obtain rfl := oj h
         refine hKn2 _ _ _ rfl (.nz (.mtE [0, 1, 2, 3, 4, 5, 6, 7] ?_))
         (cbv; repeat (refine ⟨an_, ?_⟩; cbv))
       · cbv
         obtain rfl := oj h
         obtain rfl := hr2 _ rfl
         refine hKn1 _ _ _ rfl (.nz (.mtE [0, 1, 2, 3, 4, 5, 6, 7] ?_))
         (cbv; repeat (refine ⟨an_, ?_⟩; cbv))
     obtain ⟨own18, c19⟩ := t
     cbv
     refine .g h (fun (c45 : (A10 Int)) => rp 6 .top ++ [.ptr 4 0] ++ rp 6 .top ++ [.hd 7] ++ rp 103 .top) (fun (c45 : (A10 Int)) => [.cells [.fp (.sl (W eRule fd.policy.Rules) :: .sl (W eRanged fd.zones) :: cl fd.limits)] 59, .cells [.d (.sl (W eIi64 need))] 67, .cells [.clo (.func 28) [] []] 33, .mp .str false (WM Value.string eB own18), .cells [.hd 3] 81, .cells (ca c45) 32, .cells [.clo (.func 49) [] [.ptr 1 0, .ptr 0 0, .ptr 2 0, .ptr 5 0, .ptr 4 0, .ptr 6 0]] 85, .row 5 1 (W eIu8 name10)]) (fun y hm Kn1 hKn1 => ?_) fun t h => ?_
     · have h := hm
       clear hm
       cbv
       refine .c10 h ?_ ?_ ?_ ?_ ?_ ?_ ?_ ?_ ?_ ?_ <;> (
         intro hni46 h
         cbv
         obtain rfl := oj h
         refine hKn1 _ _ _ rfl (.nz (.mtE [0, 1, 2, 3, 4, 5, 6, 7] ?_))
         (cbv; repeat (refine ⟨an_, ?_⟩; cbv))
         )
     obtain ⟨c45, rfl⟩ : ∃ z, z = t := ⟨_, rfl⟩
     cbv
     refine .g (e := eIu8) h (fun _ => rfl) (by first | rfl | exact W_nil' _) fun z47 h => ?_
     cbv
     refine .gs (e := eB) h (by first | rfl | exact WM_nil' _ _) aw_ fun m48 h => ?_
     cbv
     obtain rfl := oj h
     refine hK _ _ ?_
     (cbv; repeat (refine ⟨an_, ?_⟩; cbv))
noncomputable def search_accept (fd : Finder) (need : (List Int)) : Nat → Int → List Int → (A10 Int) → (List (ByteArray × Bool)) → Option (Bool × (A10 Int) × (List (ByteArray × Bool)))
 | 0, _, _, _, _ => none
 | n + 1, attr, alive, facts, failed => search_accept_b fd need (search_accept fd need n) attr alive facts failed
theorem search_accept_all {P : Program} (hP : P = Try.prog) (fd : Finder) (need : (List Int)) : ∀ (n : Nat) (attr : Int) (alive : List Int) (facts : (A10 Int)) (failed : (List (ByteArray × Bool))) (r : Bool × (A10 Int) × (List (ByteArray × Bool))), search_accept fd need n attr alive facts failed = some r → SCall P 49 [.cells [.fp (.sl (W eRule fd.policy.Rules) :: .sl (W eRanged fd.zones) :: cl fd.limits)] 59, .cells [.d (.sl (W eIi64 need))] 67, .cells [.clo (.func 28) [] []] 33, .mp .str false (WM Value.string eB failed), .cells [.hd 3] 81, .cells (ca facts) 32, .cells [.clo (.func 49) [] [.ptr 1 0, .ptr 0 0, .ptr 2 0, .ptr 5 0, .ptr 4 0, .ptr 6 0]] 85] [oi attr, .d (.sl (W eIi64 alive)), .ptr 1 0, .ptr 0 0, .ptr 2 0, .ptr 5 0, .ptr 4 0, .ptr 6 0] (fun sv own' => sv = ob r.1 ∧ own' = [.cells [.fp (.sl (W eRule fd.policy.Rules) :: .sl (W eRanged fd.zones) :: cl fd.limits)] 59, .cells [.d (.sl (W eIi64 need))] 67, .cells [.clo (.func 28) [] []] 33, .mp .str false (WM Value.string eB r.2.2), .cells [.hd 3] 81, .cells (ca r.2.1) 32, .cells [.clo (.func 49) [] [.ptr 1 0, .ptr 0 0, .ptr 2 0, .ptr 5 0, .ptr 4 0, .ptr 6 0]] 85])
 | 0, _, _, _, _, _, h => by cases h
 | n + 1, attr, alive, facts, failed, r, h => search_accept_R hP fd need _ attr alive facts failed (search_accept_all hP fd need n) r h
end Go.SX.Cl
