/- Parts of the proof. -/
import Derived.Test.YtllbabjgpdmblaaZClT
import Derived.Test.YtllbabjgpdmblaaZCl18
import Derived.Test.YtllbabjgpdmblaaZCl52
import Derived.Test.YtllbabjgpdmblaaZClSaccept
set_option linter.unusedSimpArgs false
set_option linter.unusedVariables false
namespace Go.SX.Cl
open Go Go.SX Go.Proofs
set_option maxRecDepth 100000
def c55r0 : List GOp := [
 gv 3 (.box 32 (.tmp 0)),
 gv 4 (.mv (.const (.bool false)))]
def c55r1 : List GOp := [
 gv 7 (.load 1 false (.tmp 1)),
 gv 8 (.nilck (.tmp 7)),
 gv 9 (.fadd 0 (.tmp 8)),
 gv 10 (.load 1 true (.tmp 9)),
 gv 11 (.load 10 true (.tmp 3)),
 gv 12 (.call 18 [(.tmp 10), (.tmp 11)]),
 gv 13 (.load 1 true (.tmp 2)),
 gv 14 (.load 10 true (.tmp 3)),
 gv 15 (.call 18 [(.tmp 13), (.tmp 14)]),
 gv 5 (.alloc 45 (.agg #[(.bool false), (.bool false), (.bool false), oz, oz, oz, oz, oz, oz, oz, oz, oz, oz, oz, oz, oz])),
 gv 6 (.alloc 45 (.agg #[(.bool false), (.bool false), (.bool false), oz, oz, oz, oz, oz, oz, oz, oz, oz, oz, oz, oz, oz])),
 ⟨none, .store 16 (.tmp 5) (.tmp 12), none⟩,
 ⟨none, .store 16 (.tmp 6) (.tmp 15), none⟩]
def c55r2 : List GOp := [
 gv 16 (.fadd 15 (.tmp 6)),
 gv 17 (.load 1 false (.tmp 16)),
 gv 18 (.fadd 15 (.tmp 5)),
 ⟨none, .store 1 (.tmp 18) (.tmp 17), none⟩]
def c55r3 : List GOp := [
 gv 19 (.load 16 true (.tmp 5)),
 gv 20 (.load 16 true (.tmp 6)),
 gv 21 (.beq true [.bool, .bool, .bool, .int, .int, .int, .int, .int, .int, .int, .int, .int, .int, .int, .int, .int] (.tmp 19) (.tmp 20)),
 gv 4 (.mv (.tmp 21))]
def c55 : EFn := ⟨22, .seq (.reg c55r0) (.seq (.par false false false 11 c55r1) (.seq (.reg c55r2) (.seq (.reg c55r3) (.ret)))), [.tmp 4]⟩
theorem c55_ok : compF Try.prog 55 = some c55.er := by kernel_rfl
noncomputable def search_differs_l26 (alive : (List Int)) (fd : Finder) (x2 : Int) : Int → Option ((Int) ⊕ ((Unit) ⊕ (Bool)))
 | v4 =>
 bif (io.lt v4 (io.len (W eIi64 alive))) then (
 Option.bind (
 Option.bind (idxG alive v4) fun x6 =>
 Option.bind (idxG fd.zones x6) fun x7 =>
 some (io.eq x7.rule x2)
 ) fun v5 =>
 bif v5 then (
 some (.inr (.inr (io.not (io.le 0 v4))))
 ) else (
 some (.inl (io.ar .add .i64 v4 1))
 )
 ) else (
 some (.inr (.inl ()))
 )
noncomputable def search_differs_l22 (need : (List Int)) (alive : (List Int)) (fd : Finder) (facts : (A10 Int)) (failed : (List (ByteArray × Bool))) : Int → Option ((Int) ⊕ ((Unit) ⊕ (Bool × (A10 Int) × (List (ByteArray × Bool)))))
 | v1 =>
 bif (io.lt v1 (io.len (W eIi64 need))) then (
 Option.bind (idxG need v1) fun x2 =>
 Option.bind (
 orR (
 whileG (search_differs_l26 alive fd x2) 0
 ) fun _ =>
 some (io.not (io.le 0 (-1)))
 ) fun v3 =>
 bif v3 then (
 some (.inr (.inr (false, facts, failed)))
 ) else (
 some (.inl (io.ar .add .i64 v1 1))
 )
 ) else (
 some (.inr (.inl ()))
 )
noncomputable def search_differs_l28 (alive : (List Int)) : ((List Int) × Int) → Option (((List Int) × Int) ⊕ ((List Int)))
 | (name12, v13) =>
 bif (io.lt v13 (io.len (W eIi64 alive))) then (
 Option.bind (idxG alive v13) fun x14 =>
 Option.bind (some [(io.wrap .u8 x14), (io.wrap .u8 (io.shr .i64 x14 (.ofNat 8))), (io.wrap .u8 (io.shr .i64 x14 (.ofNat 16)))]) fun l15 =>
 Option.bind (appG name12 l15) fun name16 =>
 some (.inl (name16, (io.ar .add .i64 v13 1)))
 ) else (
 some (.inr name12)
 )
noncomputable def search_differs_l54 (alive : (List Int)) (fd : Finder) (attr : Int) (x27 : Int) : ((List Int) × Int) → Option (((List Int) × Int) ⊕ ((List Int)))
 | (next31, v32) =>
 bif (io.lt v32 (io.len (W eIi64 alive))) then (
 Option.bind (
 Option.bind (idxG alive v32) fun x34 =>
 Option.bind (
 Option.bind (idxG fd.zones x34) fun x37 =>
 Option.bind (pixG 10 attr) fun i38 =>
 some ((x37.zone.get i38).Lo, (x37.zone.get i38).Hi)
 ) fun (Lo35, Hi36) =>
 Option.bind (
 bif (io.le Lo35 x27) then (
 some (io.le x27 Hi36)
 ) else (
 some false
 )
 ) fun v39 =>
 bif v39 then (
 Option.bind (some [x34]) fun l40 =>
 Option.bind (appG next31 l40) fun next41 =>
 some next41
 ) else (
 some next31
 )
 ) fun next33 =>
 some (.inl (next33, (io.ar .add .i64 v32 1)))
 ) else (
 some (.inr next31)
 )
noncomputable def search_differs_l50 (v21 : (List Int)) (attr : Int) (alive : (List Int)) (fd : Finder) (rec : (Int → List Int → (A10 Int) → (List (ByteArray × Bool)) → Option (Bool × (A10 Int) × (List (ByteArray × Bool))))) : ((List (ByteArray × Bool)) × (A10 Int) × Int) → Option (((List (ByteArray × Bool)) × (A10 Int) × Int) ⊕ (((List (ByteArray × Bool)) × (A10 Int)) ⊕ (Bool × (A10 Int) × (List (ByteArray × Bool)))))
 | (own22, c23, v24) =>
 bif (io.lt v24 (io.len (W eIi64 v21))) then (
 orR (
 Option.bind (idxG v21 v24) fun x27 =>
 Option.bind (
 Option.bind (pixG 10 attr) fun i29 =>
 some (c23.put i29 x27)
 ) fun c28 =>
 Option.bind (
 whileG (search_differs_l54 alive fd attr x27) ([], 0)
 ) fun next30 =>
 Option.bind (
 Option.bind (rec (io.ar .add .i64 attr 1) next30 c28 own22) fun r45 =>
 some (r45.2.2, r45.2.1, r45.1)
 ) fun (own42, c43, v44) =>
 bif v44 then (
 some (.inr (.inr (.inr (true, c43, own42))))
 ) else (
 some (.inl (own42, c43))
 )
 ) fun (own25, c26) =>
 some (.inl (own25, c26, (io.ar .add .i64 v24 1)))
 ) else (
 some (.inr (.inl (own22, c23)))
 )
noncomputable def search_differs_b (fd : Finder) (need : (List Int)) (fe : Finder) (less : Policy) (rec : (Int → List Int → (A10 Int) → (List (ByteArray × Bool)) → Option (Bool × (A10 Int) × (List (ByteArray × Bool))))) (attr : Int) (alive : (List Int)) (facts : (A10 Int)) (failed : (List (ByteArray × Bool))) : Option (Bool × (A10 Int) × (List (ByteArray × Bool))) :=
 orR (
 whileG (search_differs_l22 need alive fd facts failed) 0
 ) fun _ =>
 bif (io.eq attr 10) then (
 Option.bind (decide_Decide_g fe.policy facts) fun v8 =>
 Option.bind (decide_Decide_g less facts) fun v9 =>
 some ((io.not (qDecision (Decision.mk v8.Allowed v8.Together v8.Single v8.Limit v8.Price v8.Fee v8.Tax v8.Cap v8.Share v8.Refund v9.By) v9)), facts, failed)
 ) else (
 Option.bind (some [(io.wrap .u8 attr)]) fun name10 =>
 Option.bind (
 whileG (search_differs_l28 alive) (name10, 0)
 ) fun name11 =>
 Option.bind (some (strOfNums name11)) fun z17 =>
 Option.bind (some (mlookD failed z17 false)) fun y18 =>
 bif y18 then (
 some (false, facts, failed)
 ) else (
 orR (
 Option.bind (clash_finder_cuts_g fd attr alive) fun v21 =>
 whileG (search_differs_l50 v21 attr alive fd rec) (failed, facts, 0)
 ) fun (own19, c20) =>
 Option.bind (
 Option.bind (pixG 10 attr) fun i47 =>
 some (c20.put i47 0)
 ) fun c46 =>
 Option.bind (some (strOfNums name11)) fun z48 =>
 Option.bind (some (mputG own19 z48 true)) fun m49 =>
 some (false, c46, m49)
 )
 )
set_option maxHeartbeats 8000000 in
theorem search_differs_R {P : Program} (hP : P = Try.prog) (fd : Finder) (need : (List Int)) (fe : Finder) (less : Policy) (rec : (Int → List Int → (A10 Int) → (List (ByteArray × Bool)) → Option (Bool × (A10 Int) × (List (ByteArray × Bool))))) (attr : Int) (alive : (List Int)) (facts : (A10 Int)) (failed : (List (ByteArray × Bool))) (hrec : ∀ attr alive facts failed r, rec attr alive facts failed = some r → SCall P 49 [.cells [.fp (.sl (W eRule fd.policy.Rules) :: .sl (W eRanged fd.zones) :: cl fd.limits)] 59, .cells [.d (.sl (W eIi64 need))] 67, .cells [.clo (.func 55) [] [.ptr 7 0, .ptr 8 0]] 33, .mp .str false (WM Value.string eB failed), .cells [.hd 3] 81, .cells (ca facts) 32, .cells [.clo (.func 49) [] [.ptr 1 0, .ptr 0 0, .ptr 2 0, .ptr 5 0, .ptr 4 0, .ptr 6 0]] 85, .cells [.fp (.sl (W eRule fe.policy.Rules) :: .sl (W eRanged fe.zones) :: cl fe.limits)] 59, .cells [.d (.sl (W eRule less.Rules))] 24] [oi attr, .d (.sl (W eIi64 alive)), .ptr 1 0, .ptr 0 0, .ptr 2 0, .ptr 5 0, .ptr 4 0, .ptr 6 0] (fun sv own' => sv = ob r.1 ∧ own' = [.cells [.fp (.sl (W eRule fd.policy.Rules) :: .sl (W eRanged fd.zones) :: cl fd.limits)] 59, .cells [.d (.sl (W eIi64 need))] 67, .cells [.clo (.func 55) [] [.ptr 7 0, .ptr 8 0]] 33, .mp .str false (WM Value.string eB r.2.2), .cells [.hd 3] 81, .cells (ca r.2.1) 32, .cells [.clo (.func 49) [] [.ptr 1 0, .ptr 0 0, .ptr 2 0, .ptr 5 0, .ptr 4 0, .ptr 6 0]] 85, .cells [.fp (.sl (W eRule fe.policy.Rules) :: .sl (W eRanged fe.zones) :: cl fe.limits)] 59, .cells [.d (.sl (W eRule less.Rules))] 24])) (r : Bool × (A10 Int) × (List (ByteArray × Bool))) (h : search_differs_b fd need fe less rec attr alive facts failed = some r) : SCall P 49 [.cells [.fp (.sl (W eRule fd.policy.Rules) :: .sl (W eRanged fd.zones) :: cl fd.limits)] 59, .cells [.d (.sl (W eIi64 need))] 67, .cells [.clo (.func 55) [] [.ptr 7 0, .ptr 8 0]] 33, .mp .str false (WM Value.string eB failed), .cells [.hd 3] 81, .cells (ca facts) 32, .cells [.clo (.func 49) [] [.ptr 1 0, .ptr 0 0, .ptr 2 0, .ptr 5 0, .ptr 4 0, .ptr 6 0]] 85, .cells [.fp (.sl (W eRule fe.policy.Rules) :: .sl (W eRanged fe.zones) :: cl fe.limits)] 59, .cells [.d (.sl (W eRule less.Rules))] 24] [oi attr, .d (.sl (W eIi64 alive)), .ptr 1 0, .ptr 0 0, .ptr 2 0, .ptr 5 0, .ptr 4 0, .ptr 6 0] (fun sv own' => sv = ob r.1 ∧ own' = [.cells [.fp (.sl (W eRule fd.policy.Rules) :: .sl (W eRanged fd.zones) :: cl fd.limits)] 59, .cells [.d (.sl (W eIi64 need))] 67, .cells [.clo (.func 55) [] [.ptr 7 0, .ptr 8 0]] 33, .mp .str false (WM Value.string eB r.2.2), .cells [.hd 3] 81, .cells (ca r.2.1) 32, .cells [.clo (.func 49) [] [.ptr 1 0, .ptr 0 0, .ptr 2 0, .ptr 5 0, .ptr 4 0, .ptr 6 0]] 85, .cells [.fp (.sl (W eRule fe.policy.Rules) :: .sl (W eRanged fe.zones) :: cl fe.limits)] 59, .cells [.d (.sl (W eRule less.Rules))] 24]) := by
 refine .walkT [0, 1, 2, 3, 4, 5, 6, 7, 8] 9 rfl rfl (by decide) (by decide) (hP ▸ c49_ok) fun K hK => ?_
 unfold search_differs_b at h
 cbv
 refine .ga h (fun (_ : Unit) => [oi attr, .d (.sl (W eIi64 alive)), .top, .ptr 0 0, .ptr 2 0, .ptr 5 0, .ptr 4 0, .ptr 6 0] ++ rp 109 .top) (fun (_ : Unit) => [.cells [.fp (.sl (W eRule fd.policy.Rules) :: .sl (W eRanged fd.zones) :: cl fd.limits)] 59, .cells [.d (.sl (W eIi64 need))] 67, .cells [.clo (.func 55) [] [.ptr 7 0, .ptr 8 0]] 33, .mp .str false (WM Value.string eB failed), .cells [.hd 3] 81, .cells (ca facts) 32, .cells [.clo (.func 49) [] [.ptr 1 0, .ptr 0 0, .ptr 2 0, .ptr 5 0, .ptr 4 0, .ptr 6 0]] 85, .cells [.fp (.sl (W eRule fe.policy.Rules) :: .sl (W eRanged fe.zones) :: cl fe.limits)] 59, .cells [.d (.sl (W eRule less.Rules))] 24]) (fun y hm hr1 Kn1 hKn1 => ?_) fun t h => ?_
 · have h := hm
   clear hm
   cbv
   refine .g h (fun (v1 : Int) => [oi attr, .d (.sl (W eIi64 alive)), .top, .ptr 0 0, .ptr 2 0, .ptr 5 0, .ptr 4 0, .ptr 6 0] ++ rp 14 .top ++ [.d (.sl (W eIi64 need)), oi (io.len (W eIi64 need)), oi v1] ++ rp 92 .top) (fun (v1 : Int) => [.cells [.fp (.sl (W eRule fd.policy.Rules) :: .sl (W eRanged fd.zones) :: cl fd.limits)] 59, .cells [.d (.sl (W eIi64 need))] 67, .cells [.clo (.func 55) [] [.ptr 7 0, .ptr 8 0]] 33, .mp .str false (WM Value.string eB failed), .cells [.hd 3] 81, .cells (ca facts) 32, .cells [.clo (.func 49) [] [.ptr 1 0, .ptr 0 0, .ptr 2 0, .ptr 5 0, .ptr 4 0, .ptr 6 0]] 85, .cells [.fp (.sl (W eRule fe.policy.Rules) :: .sl (W eRanged fe.zones) :: cl fe.limits)] 59, .cells [.d (.sl (W eRule less.Rules))] 24]) (.nz (.mtE [0, 1, 2, 3, 4, 5, 6, 7, 8] ?_)) fun s x h hr2 Kn2 hKn2 => ?_
   · (cbv; repeat (refine ⟨an_, ?_⟩; cbv))
   unfold search_differs_l22 at h
   obtain ⟨v1, rfl⟩ : ∃ z, z = s := ⟨_, rfl⟩
   cbv
   refine brkG h ?_ ?_ <;> intro h
   · cbv
     refine .g h (fun _ => rfl) fun x2 h => ?_
     cbv
     refine .g h (fun (v3 : Bool) => [oi attr, .d (.sl (W eIi64 alive)), .top, .ptr 0 0, .ptr 2 0, .ptr 5 0, .ptr 4 0, .ptr 6 0] ++ rp 14 .top ++ [.d (.sl (W eIi64 need)), oi (io.len (W eIi64 need)), oi v1] ++ rp 6 .top ++ [ob v3] ++ rp 85 .top) (fun (v3 : Bool) => [.cells [.fp (.sl (W eRule fd.policy.Rules) :: .sl (W eRanged fd.zones) :: cl fd.limits)] 59, .cells [.d (.sl (W eIi64 need))] 67, .cells [.clo (.func 55) [] [.ptr 7 0, .ptr 8 0]] 33, .mp .str false (WM Value.string eB failed), .cells [.hd 3] 81, .cells (ca facts) 32, .cells [.clo (.func 49) [] [.ptr 1 0, .ptr 0 0, .ptr 2 0, .ptr 5 0, .ptr 4 0, .ptr 6 0]] 85, .cells [.fp (.sl (W eRule fe.policy.Rules) :: .sl (W eRanged fe.zones) :: cl fe.limits)] 59, .cells [.d (.sl (W eRule less.Rules))] 24]) (fun y hm Kn3 hKn3 => ?_) fun t h => ?_
     · have h := hm
       clear hm
       cbv
       refine .inl (hP ▸ c50_ok) ?_
       cbv
       refine .inl (hP ▸ c65_ok) ?_
       cbv
       refine .ga h (fun (_ : Unit) => rp 19 .top) (fun (_ : Unit) => [.cells [.fp (.sl (W eRule fd.policy.Rules) :: .sl (W eRanged fd.zones) :: cl fd.limits)] 59, .cells [.d (.sl (W eIi64 need))] 67, .cells [.clo (.func 55) [] [.ptr 7 0, .ptr 8 0]] 33, .mp .str false (WM Value.string eB failed), .cells [.hd 3] 81, .cells (ca facts) 32, .cells [.clo (.func 49) [] [.ptr 1 0, .ptr 0 0, .ptr 2 0, .ptr 5 0, .ptr 4 0, .ptr 6 0]] 85, .cells [.fp (.sl (W eRule fe.policy.Rules) :: .sl (W eRanged fe.zones) :: cl fe.limits)] 59, .cells [.d (.sl (W eRule less.Rules))] 24, .cells [oi x2] 3]) (fun y hm hr4 Kn4 hKn4 => ?_) fun t h => ?_
       · have h := hm
         clear hm
         cbv
         refine .g h (fun (v4 : Int) => [.d (.sl (W eIi64 alive)), .clo (.func 51) [] [.ptr 0 0, .ptr 9 0]] ++ rp 5 .top ++ [oi (io.len (W eIi64 alive)), oi v4] ++ rp 10 .top) (fun (v4 : Int) => [.cells [.fp (.sl (W eRule fd.policy.Rules) :: .sl (W eRanged fd.zones) :: cl fd.limits)] 59, .cells [.d (.sl (W eIi64 need))] 67, .cells [.clo (.func 55) [] [.ptr 7 0, .ptr 8 0]] 33, .mp .str false (WM Value.string eB failed), .cells [.hd 3] 81, .cells (ca facts) 32, .cells [.clo (.func 49) [] [.ptr 1 0, .ptr 0 0, .ptr 2 0, .ptr 5 0, .ptr 4 0, .ptr 6 0]] 85, .cells [.fp (.sl (W eRule fe.policy.Rules) :: .sl (W eRanged fe.zones) :: cl fe.limits)] 59, .cells [.d (.sl (W eRule less.Rules))] 24, .cells [oi x2] 3]) (.nz (.mtE [0, 1, 2, 3, 4, 5, 6, 7, 8, 9] ?_)) fun s x h hr5 Kn5 hKn5 => ?_
         · (cbv; repeat (refine ⟨an_, ?_⟩; cbv))
         unfold search_differs_l26 at h
         obtain ⟨v4, rfl⟩ : ∃ z, z = s := ⟨_, rfl⟩
         cbv
         refine brkG h ?_ ?_ <;> intro h
         · cbv
           refine .g h (fun (v5 : Bool) => [.d (.sl (W eIi64 alive)), .clo (.func 51) [] [.ptr 0 0, .ptr 9 0]] ++ rp 3 .top ++ [oi v4, .top, oi (io.len (W eIi64 alive)), oi v4] ++ rp 7 .top ++ [ob v5, .top, .top]) (fun (v5 : Bool) => [.cells [.fp (.sl (W eRule fd.policy.Rules) :: .sl (W eRanged fd.zones) :: cl fd.limits)] 59, .cells [.d (.sl (W eIi64 need))] 67, .cells [.clo (.func 55) [] [.ptr 7 0, .ptr 8 0]] 33, .mp .str false (WM Value.string eB failed), .cells [.hd 3] 81, .cells (ca facts) 32, .cells [.clo (.func 49) [] [.ptr 1 0, .ptr 0 0, .ptr 2 0, .ptr 5 0, .ptr 4 0, .ptr 6 0]] 85, .cells [.fp (.sl (W eRule fe.policy.Rules) :: .sl (W eRanged fe.zones) :: cl fe.limits)] 59, .cells [.d (.sl (W eRule less.Rules))] 24, .cells [oi x2] 3]) (fun y hm Kn6 hKn6 => ?_) fun t h => ?_
           · have h := hm
             clear hm
             cbv
             refine .g h (fun _ => rfl) fun x6 h => ?_
             cbv
             refine .inl (hP ▸ c51_ok) ?_
             cbv
             refine .g h (fun _ => rfl) fun x7 h => ?_
             cbv
             obtain rfl := oj h
             refine hKn6 _ _ _ rfl (.nz (.mtE [0, 1, 2, 3, 4, 5, 6, 7, 8, 9] ?_))
             (cbv; repeat (refine ⟨an_, ?_⟩; cbv))
           obtain ⟨v5, rfl⟩ : ∃ z, z = t := ⟨_, rfl⟩
           cbv
           refine brkG h ?_ ?_ <;> intro h
           · cbv
             obtain rfl := oj h
             obtain rfl := hr5 _ rfl
             obtain rfl := hr4 _ rfl
             refine hKn3 _ _ _ rfl (.nz (.mtE [0, 1, 2, 3, 4, 5, 6, 7, 8] ?_))
             (cbv; repeat (refine ⟨an_, ?_⟩; cbv))
           · cbv
             obtain rfl := oj h
             refine hKn5 _ _ _ rfl (.nz (.mtE [0, 1, 2, 3, 4, 5, 6, 7, 8, 9] ?_))
             (cbv; repeat (refine ⟨an_, ?_⟩; cbv))
         · cbv
           obtain rfl := oj h
           obtain rfl := hr5 _ rfl
           refine hKn4 _ _ _ rfl (.nz (.mtE [0, 1, 2, 3, 4, 5, 6, 7, 8, 9] ?_))
           (cbv; repeat (refine ⟨an_, ?_⟩; cbv))
       cbv
       obtain rfl := oj h
       refine hKn3 _ _ _ rfl (.nz (.mtE [0, 1, 2, 3, 4, 5, 6, 7, 8] ?_))
       (cbv; repeat (refine ⟨an_, ?_⟩; cbv))
     obtain ⟨v3, rfl⟩ : ∃ z, z = t := ⟨_, rfl⟩
     cbv
     refine brkG h ?_ ?_ <;> intro h
     · cbv
       obtain rfl := oj h
       obtain rfl := hr2 _ rfl
       obtain rfl := hr1 _ rfl
       refine hK _ _ ?_
       (cbv; repeat (refine ⟨an_, ?_⟩; cbv))
     · cbv
       obtain rfl := oj h
       refine hKn2 _ _ _ rfl (.nz (.mtE [0, 1, 2, 3, 4, 5, 6, 7, 8] ?_))
       (cbv; repeat (refine ⟨an_, ?_⟩; cbv))
   · cbv
     obtain rfl := oj h
     obtain rfl := hr2 _ rfl
     refine hKn1 _ _ _ rfl (.nz (.mtE [0, 1, 2, 3, 4, 5, 6, 7, 8] ?_))
     (cbv; repeat (refine ⟨an_, ?_⟩; cbv))
 cbv
 refine brkG h ?_ ?_ <;> intro h
 · cbv
   refine .inl (hP ▸ c55_ok) ?_
   cbv
   refine .g h (fun v hv => decide_Decide_R hP _ _ v hv) aw_ rfl (fun _ => rfl) fun v8 h => ?_
   cbv
   refine .g h (fun v hv => decide_Decide_R hP _ _ v hv) aw_ rfl (fun _ => rfl) fun v9 h => ?_
   cbv
   obtain rfl := oj h
   refine hK _ _ ?_
   (cbv; repeat (refine ⟨an_, ?_⟩; cbv))
 · cbv
   refine .g (e := eIu8) h (W_cons aw_ (W_nil' _)) fun name10 h => ?_
   cbv
   refine .g h (fun (name11 : (List Int)) => [oi attr, .d (.sl (W eIi64 alive)), .top, .ptr 0 0, .top, .ptr 5 0, .ptr 4 0, .ptr 6 0] ++ rp 5 .top ++ [.hd 9] ++ rp 103 .top) (fun (name11 : (List Int)) => [.cells [.fp (.sl (W eRule fd.policy.Rules) :: .sl (W eRanged fd.zones) :: cl fd.limits)] 59, .cells [.d (.sl (W eIi64 need))] 67, .cells [.clo (.func 55) [] [.ptr 7 0, .ptr 8 0]] 33, .mp .str false (WM Value.string eB failed), .cells [.hd 3] 81, .cells (ca facts) 32, .cells [.clo (.func 49) [] [.ptr 1 0, .ptr 0 0, .ptr 2 0, .ptr 5 0, .ptr 4 0, .ptr 6 0]] 85, .cells [.fp (.sl (W eRule fe.policy.Rules) :: .sl (W eRanged fe.zones) :: cl fe.limits)] 59, .cells [.d (.sl (W eRule less.Rules))] 24, .row 5 1 (W eIu8 name11)]) (fun y hm Kn1 hKn1 => ?_) fun t h => ?_
   · have h := hm
     clear hm
     cbv
     refine .g h (fun ((name12, v13) : (List Int) × Int) => [oi attr, .d (.sl (W eIi64 alive)), .top, .ptr 0 0, .top, .ptr 5 0, .ptr 4 0, .ptr 6 0] ++ rp 5 .top ++ [.hd 9] ++ rp 27 .top ++ [.d (.sl (W eIi64 alive)), oi (io.len (W eIi64 alive)), oi v13] ++ rp 73 .top) (fun ((name12, v13) : (List Int) × Int) => [.cells [.fp (.sl (W eRule fd.policy.Rules) :: .sl (W eRanged fd.zones) :: cl fd.limits)] 59, .cells [.d (.sl (W eIi64 need))] 67, .cells [.clo (.func 55) [] [.ptr 7 0, .ptr 8 0]] 33, .mp .str false (WM Value.string eB failed), .cells [.hd 3] 81, .cells (ca facts) 32, .cells [.clo (.func 49) [] [.ptr 1 0, .ptr 0 0, .ptr 2 0, .ptr 5 0, .ptr 4 0, .ptr 6 0]] 85, .cells [.fp (.sl (W eRule fe.policy.Rules) :: .sl (W eRanged fe.zones) :: cl fe.limits)] 59, .cells [.d (.sl (W eRule less.Rules))] 24, .row 5 1 (W eIu8 name12)]) (.nz (.mtE [0, 1, 2, 3, 4, 5, 6, 7, 8, 9] ?_)) fun s x h hr2 Kn2 hKn2 => ?_
     · (cbv; repeat (refine ⟨an_, ?_⟩; cbv))
     unfold search_differs_l28 at h
     obtain ⟨name12, v13⟩ := s
     cbv
     refine brkG h ?_ ?_ <;> intro h
     · cbv
       refine .g h (fun _ => rfl) fun x14 h => ?_
       cbv
       refine .g (e := eIu8) h (W_cons aw_ (W_cons aw_ (W_cons aw_ (W_nil' _)))) fun l15 h => ?_
       cbv
       refine .g h rfl (fun _ => rfl) (by decide) fun name16 h => ?_
       cbv
       obtain rfl := oj h
       refine hKn2 _ _ _ rfl (.nz (.mtE [0, 1, 2, 3, 4, 5, 6, 7, 8, 11] ?_))
       (cbv; repeat (refine ⟨an_, ?_⟩; cbv))
     · cbv
       obtain rfl := oj h
       obtain rfl := hr2 _ rfl
       refine hKn1 _ _ _ rfl (.nz (.mtE [0, 1, 2, 3, 4, 5, 6, 7, 8, 9] ?_))
       (cbv; repeat (refine ⟨an_, ?_⟩; cbv))
   obtain ⟨name11, rfl⟩ : ∃ z, z = t := ⟨_, rfl⟩
   cbv
   refine .g (e := eIu8) h (fun _ => rfl) (by first | rfl | exact W_nil' _) fun z17 h => ?_
   cbv
   refine .gs (e := eB) h (by first | rfl | exact WM_nil' _ _) (fun h => h) fun y18 h => ?_
   cbv
   refine brkG h ?_ ?_ <;> intro h
   · cbv
     obtain rfl := oj h
     refine hK _ _ ?_
     (cbv; repeat (refine ⟨an_, ?_⟩; cbv))
   · cbv
     refine .ga h (fun ((own19, c20) : (List (ByteArray × Bool)) × (A10 Int)) => [oi attr] ++ rp 4 .top ++ [.ptr 5 0, .ptr 4 0] ++ rp 6 .top ++ [.hd 9] ++ rp 103 .top) (fun ((own19, c20) : (List (ByteArray × Bool)) × (A10 Int)) => [.cells [.fp (.sl (W eRule fd.policy.Rules) :: .sl (W eRanged fd.zones) :: cl fd.limits)] 59, .cells [.d (.sl (W eIi64 need))] 67, .cells [.clo (.func 55) [] [.ptr 7 0, .ptr 8 0]] 33, .mp .str false (WM Value.string eB own19), .cells [.hd 3] 81, .cells (ca c20) 32, .cells [.clo (.func 49) [] [.ptr 1 0, .ptr 0 0, .ptr 2 0, .ptr 5 0, .ptr 4 0, .ptr 6 0]] 85, .cells [.fp (.sl (W eRule fe.policy.Rules) :: .sl (W eRanged fe.zones) :: cl fe.limits)] 59, .cells [.d (.sl (W eRule less.Rules))] 24, .row 5 1 (W eIu8 name11)]) (fun y hm hr1 Kn1 hKn1 => ?_) fun t h => ?_
     · have h := hm
       clear hm
       cbv
       refine .g h (fun v hv => clash_finder_cuts_R hP _ _ _ v hv) aw_ rfl (fun _ => rfl) fun v21 h => ?_
       cbv
       refine .g h (fun ((own22, c23, v24) : (List (ByteArray × Bool)) × (A10 Int) × Int) => [oi attr, .d (.sl (W eIi64 alive)), .top, .ptr 0 0, .top, .ptr 5 0, .ptr 4 0, .ptr 6 0] ++ rp 5 .top ++ [.hd 9] ++ rp 52 .top ++ [.d (.sl (W eIi64 v21)), oi (io.len (W eIi64 v21)), oi v24] ++ rp 48 .top) (fun ((own22, c23, v24) : (List (ByteArray × Bool)) × (A10 Int) × Int) => [.cells [.fp (.sl (W eRule fd.policy.Rules) :: .sl (W eRanged fd.zones) :: cl fd.limits)] 59, .cells [.d (.sl (W eIi64 need))] 67, .cells [.clo (.func 55) [] [.ptr 7 0, .ptr 8 0]] 33, .mp .str false (WM Value.string eB own22), .cells [.hd 3] 81, .cells (ca c23) 32, .cells [.clo (.func 49) [] [.ptr 1 0, .ptr 0 0, .ptr 2 0, .ptr 5 0, .ptr 4 0, .ptr 6 0]] 85, .cells [.fp (.sl (W eRule fe.policy.Rules) :: .sl (W eRanged fe.zones) :: cl fe.limits)] 59, .cells [.d (.sl (W eRule less.Rules))] 24, .row 5 1 (W eIu8 name11)]) (.nz (.mtE [0, 1, 2, 3, 4, 5, 6, 7, 8, 9] ?_)) fun s x h hr2 Kn2 hKn2 => ?_
       · (cbv; repeat (refine ⟨an_, ?_⟩; cbv))
       unfold search_differs_l50 at h
       obtain ⟨own22, c23, v24⟩ := s
       cbv
       refine brkG h ?_ ?_ <;> intro h
       · cbv
         refine .ga h (fun ((own25, c26) : (List (ByteArray × Bool)) × (A10 Int)) => [oi attr, .d (.sl (W eIi64 alive)), .top, .ptr 0 0, .top, .ptr 5 0, .ptr 4 0, .ptr 6 0] ++ rp 5 .top ++ [.hd 9] ++ rp 52 .top ++ [.d (.sl (W eIi64 v21)), oi (io.len (W eIi64 v21)), oi v24] ++ rp 48 .top) (fun ((own25, c26) : (List (ByteArray × Bool)) × (A10 Int)) => [.cells [.fp (.sl (W eRule fd.policy.Rules) :: .sl (W eRanged fd.zones) :: cl fd.limits)] 59, .cells [.d (.sl (W eIi64 need))] 67, .cells [.clo (.func 55) [] [.ptr 7 0, .ptr 8 0]] 33, .mp .str false (WM Value.string eB own25), .cells [.hd 3] 81, .cells (ca c26) 32, .cells [.clo (.func 49) [] [.ptr 1 0, .ptr 0 0, .ptr 2 0, .ptr 5 0, .ptr 4 0, .ptr 6 0]] 85, .cells [.fp (.sl (W eRule fe.policy.Rules) :: .sl (W eRanged fe.zones) :: cl fe.limits)] 59, .cells [.d (.sl (W eRule less.Rules))] 24, .row 5 1 (W eIu8 name11)]) (fun y hm hr3 Kn3 hKn3 => ?_) fun t h => ?_
         · have h := hm
           clear hm
           cbv
           refine .g h (fun _ => rfl) fun x27 h => ?_
           cbv
           refine .g h (fun (c28 : (A10 Int)) => [oi attr, .d (.sl (W eIi64 alive)), .top, .ptr 0 0, .top, .ptr 5 0, .ptr 4 0, .ptr 6 0] ++ rp 5 .top ++ [.hd 9] ++ rp 3 .top ++ [oi x27] ++ rp 48 .top ++ [.d (.sl (W eIi64 v21)), oi (io.len (W eIi64 v21)), oi v24] ++ rp 48 .top) (fun (c28 : (A10 Int)) => [.cells [.fp (.sl (W eRule fd.policy.Rules) :: .sl (W eRanged fd.zones) :: cl fd.limits)] 59, .cells [.d (.sl (W eIi64 need))] 67, .cells [.clo (.func 55) [] [.ptr 7 0, .ptr 8 0]] 33, .mp .str false (WM Value.string eB own22), .cells [.hd 3] 81, .cells (ca c28) 32, .cells [.clo (.func 49) [] [.ptr 1 0, .ptr 0 0, .ptr 2 0, .ptr 5 0, .ptr 4 0, .ptr 6 0]] 85, .cells [.fp (.sl (W eRule fe.policy.Rules) :: .sl (W eRanged fe.zones) :: cl fe.limits)] 59, .cells [.d (.sl (W eRule less.Rules))] 24, .row 5 1 (W eIu8 name11)]) (fun y hm Kn4 hKn4 => ?_) fun t h => ?_
           · have h := hm
             clear hm
             cbv
             refine .c10 h ?_ ?_ ?_ ?_ ?_ ?_ ?_ ?_ ?_ ?_ <;> (
               intro hni29 h
               cbv
               obtain rfl := oj h
               refine hKn4 _ _ _ rfl (.nz (.mtE [0, 1, 2, 3, 4, 5, 6, 7, 8, 9] ?_))
               (cbv; repeat (refine ⟨an_, ?_⟩; cbv))
               )
           obtain ⟨c28, rfl⟩ : ∃ z, z = t := ⟨_, rfl⟩
           cbv
           refine .g h (fun (next30 : (List Int)) => [oi attr, .d (.sl (W eIi64 alive)), .top, .ptr 0 0, .top, .ptr 5 0, .ptr 4 0, .ptr 6 0] ++ rp 5 .top ++ [.hd 9] ++ rp 4 .top ++ [.hd 10] ++ rp 47 .top ++ [.d (.sl (W eIi64 v21)), oi (io.len (W eIi64 v21)), oi v24] ++ rp 48 .top) (fun (next30 : (List Int)) => [.cells [.fp (.sl (W eRule fd.policy.Rules) :: .sl (W eRanged fd.zones) :: cl fd.limits)] 59, .cells [.d (.sl (W eIi64 need))] 67, .cells [.clo (.func 55) [] [.ptr 7 0, .ptr 8 0]] 33, .mp .str false (WM Value.string eB own22), .cells [.hd 3] 81, .cells (ca c28) 32, .cells [.clo (.func 49) [] [.ptr 1 0, .ptr 0 0, .ptr 2 0, .ptr 5 0, .ptr 4 0, .ptr 6 0]] 85, .cells [.fp (.sl (W eRule fe.policy.Rules) :: .sl (W eRanged fe.zones) :: cl fe.limits)] 59, .cells [.d (.sl (W eRule less.Rules))] 24, .row 5 1 (W eIu8 name11), .row 3 1 (W eIi64 next30)]) (fun y hm Kn4 hKn4 => ?_) fun t h => ?_
           · have h := hm
             clear hm
             cbv
             refine .g h (fun ((next31, v32) : (List Int) × Int) => [oi attr, .d (.sl (W eIi64 alive)), .top, .ptr 0 0, .top, .ptr 5 0, .ptr 4 0, .ptr 6 0] ++ rp 5 .top ++ [.hd 9] ++ rp 3 .top ++ [oi x27, .hd 10] ++ rp 47 .top ++ [.d (.sl (W eIi64 v21)), oi (io.len (W eIi64 v21)), oi v24] ++ rp 6 .top ++ [.d (.sl (W eIi64 alive)), oi (io.len (W eIi64 alive)), oi v32] ++ rp 39 .top) (fun ((next31, v32) : (List Int) × Int) => [.cells [.fp (.sl (W eRule fd.policy.Rules) :: .sl (W eRanged fd.zones) :: cl fd.limits)] 59, .cells [.d (.sl (W eIi64 need))] 67, .cells [.clo (.func 55) [] [.ptr 7 0, .ptr 8 0]] 33, .mp .str false (WM Value.string eB own22), .cells [.hd 3] 81, .cells (ca c28) 32, .cells [.clo (.func 49) [] [.ptr 1 0, .ptr 0 0, .ptr 2 0, .ptr 5 0, .ptr 4 0, .ptr 6 0]] 85, .cells [.fp (.sl (W eRule fe.policy.Rules) :: .sl (W eRanged fe.zones) :: cl fe.limits)] 59, .cells [.d (.sl (W eRule less.Rules))] 24, .row 5 1 (W eIu8 name11), .row 3 1 (W eIi64 next31)]) (.nilr 18 3 1 rfl (.nz (.mtE [0, 1, 2, 3, 4, 5, 6, 7, 8, 9, 10] ?_))) fun s x h hr5 Kn5 hKn5 => ?_
             · (cbv; repeat (refine ⟨an_, ?_⟩; cbv))
             unfold search_differs_l54 at h
             obtain ⟨next31, v32⟩ := s
             cbv
             refine brkG h ?_ ?_ <;> intro h
             · cbv
               refine .g h (fun (next33 : (List Int)) => [oi attr, .d (.sl (W eIi64 alive)), .top, .ptr 0 0, .top, .ptr 5 0, .ptr 4 0, .ptr 6 0] ++ rp 5 .top ++ [.hd 9] ++ rp 3 .top ++ [oi x27, .hd 10] ++ rp 47 .top ++ [.d (.sl (W eIi64 v21)), oi (io.len (W eIi64 v21)), oi v24] ++ rp 6 .top ++ [.d (.sl (W eIi64 alive)), oi (io.len (W eIi64 alive)), oi v32] ++ rp 39 .top) (fun (next33 : (List Int)) => [.cells [.fp (.sl (W eRule fd.policy.Rules) :: .sl (W eRanged fd.zones) :: cl fd.limits)] 59, .cells [.d (.sl (W eIi64 need))] 67, .cells [.clo (.func 55) [] [.ptr 7 0, .ptr 8 0]] 33, .mp .str false (WM Value.string eB own22), .cells [.hd 3] 81, .cells (ca c28) 32, .cells [.clo (.func 49) [] [.ptr 1 0, .ptr 0 0, .ptr 2 0, .ptr 5 0, .ptr 4 0, .ptr 6 0]] 85, .cells [.fp (.sl (W eRule fe.policy.Rules) :: .sl (W eRanged fe.zones) :: cl fe.limits)] 59, .cells [.d (.sl (W eRule less.Rules))] 24, .row 5 1 (W eIu8 name11), .row 3 1 (W eIi64 next33)]) (fun y hm Kn6 hKn6 => ?_) fun t h => ?_
               · have h := hm
                 clear hm
                 cbv
                 refine .g h (fun _ => rfl) fun x34 h => ?_
                 cbv
                 refine .g h (fun ((Lo35, Hi36) : Int × Int) => [oi attr, .d (.sl (W eIi64 alive)), .top, .ptr 0 0, .top, .ptr 5 0, .ptr 4 0, .ptr 6 0] ++ rp 5 .top ++ [.hd 9] ++ rp 3 .top ++ [oi x27, .hd 10, .top, oi x34, .ptr 11 0] ++ rp 44 .top ++ [.d (.sl (W eIi64 v21)), oi (io.len (W eIi64 v21)), oi v24] ++ rp 6 .top ++ [.d (.sl (W eIi64 alive)), oi (io.len (W eIi64 alive)), oi v32] ++ rp 39 .top) (fun ((Lo35, Hi36) : Int × Int) => [.cells [.fp (.sl (W eRule fd.policy.Rules) :: .sl (W eRanged fd.zones) :: cl fd.limits)] 59, .cells [.d (.sl (W eIi64 need))] 67, .cells [.clo (.func 55) [] [.ptr 7 0, .ptr 8 0]] 33, .mp .str false (WM Value.string eB own22), .cells [.hd 3] 81, .cells (ca c28) 32, .cells [.clo (.func 49) [] [.ptr 1 0, .ptr 0 0, .ptr 2 0, .ptr 5 0, .ptr 4 0, .ptr 6 0]] 85, .cells [.fp (.sl (W eRule fe.policy.Rules) :: .sl (W eRanged fe.zones) :: cl fe.limits)] 59, .cells [.d (.sl (W eRule less.Rules))] 24, .row 5 1 (W eIu8 name11), .row 3 1 (W eIi64 next31), .cells [oi Lo35, oi Hi36] 52]) (fun y hm Kn7 hKn7 => ?_) fun t h => ?_
                 · have h := hm
                   clear hm
                   cbv
                   refine .g h (fun _ => rfl) fun x37 h => ?_
                   cbv
                   refine .c10 h ?_ ?_ ?_ ?_ ?_ ?_ ?_ ?_ ?_ ?_ <;> (
                     intro hni38 h
                     cbv
                     obtain rfl := oj h
                     refine hKn7 _ _ _ rfl (.nz (.mtE [0, 1, 2, 3, 4, 5, 6, 7, 8, 9, 10, 11] ?_))
                     (cbv; repeat (refine ⟨an_, ?_⟩; cbv))
                     )
                 obtain ⟨Lo35, Hi36⟩ := t
                 cbv
                 refine .g h (fun (v39 : Bool) => [oi attr, .d (.sl (W eIi64 alive)), .top, .ptr 0 0, .top, .ptr 5 0, .ptr 4 0, .ptr 6 0] ++ rp 5 .top ++ [.hd 9] ++ rp 3 .top ++ [oi x27, .hd 10, .top, oi x34] ++ rp 45 .top ++ [.d (.sl (W eIi64 v21)), oi (io.len (W eIi64 v21)), oi v24] ++ rp 6 .top ++ [.d (.sl (W eIi64 alive)), oi (io.len (W eIi64 alive)), oi v32] ++ rp 22 .top ++ [ob v39] ++ rp 16 .top) (fun (v39 : Bool) => [.cells [.fp (.sl (W eRule fd.policy.Rules) :: .sl (W eRanged fd.zones) :: cl fd.limits)] 59, .cells [.d (.sl (W eIi64 need))] 67, .cells [.clo (.func 55) [] [.ptr 7 0, .ptr 8 0]] 33, .mp .str false (WM Value.string eB own22), .cells [.hd 3] 81, .cells (ca c28) 32, .cells [.clo (.func 49) [] [.ptr 1 0, .ptr 0 0, .ptr 2 0, .ptr 5 0, .ptr 4 0, .ptr 6 0]] 85, .cells [.fp (.sl (W eRule fe.policy.Rules) :: .sl (W eRanged fe.zones) :: cl fe.limits)] 59, .cells [.d (.sl (W eRule less.Rules))] 24, .row 5 1 (W eIu8 name11), .row 3 1 (W eIi64 next31)]) (fun y hm Kn7 hKn7 => ?_) fun t h => ?_
                 · have h := hm
                   clear hm
                   cbv
                   refine brkG h ?_ ?_ <;> intro h
                   · cbv
                     obtain rfl := oj h
                     refine hKn7 _ _ _ rfl (.nz (.mtE [0, 1, 2, 3, 4, 5, 6, 7, 8, 9, 10] ?_))
                     (cbv; repeat (refine ⟨an_, ?_⟩; cbv))
                   · cbv
                     obtain rfl := oj h
                     refine hKn7 _ _ _ rfl (.nz (.mtE [0, 1, 2, 3, 4, 5, 6, 7, 8, 9, 10] ?_))
                     (cbv; repeat (refine ⟨an_, ?_⟩; cbv))
                 obtain ⟨v39, rfl⟩ : ∃ z, z = t := ⟨_, rfl⟩
                 cbv
                 refine brkG h ?_ ?_ <;> intro h
                 · cbv
                   refine .g (e := eIi64) h (W_cons aw_ (W_nil' _)) fun l40 h => ?_
                   cbv
                   refine .g h rfl (fun _ => rfl) (by decide) fun next41 h => ?_
                   cbv
                   obtain rfl := oj h
                   refine hKn6 _ _ _ rfl (.nz (.mtE [0, 1, 2, 3, 4, 5, 6, 7, 8, 9, 12] ?_))
                   (cbv; repeat (refine ⟨an_, ?_⟩; cbv))
                 · cbv
                   obtain rfl := oj h
                   refine hKn6 _ _ _ rfl (.nz (.mtE [0, 1, 2, 3, 4, 5, 6, 7, 8, 9, 10] ?_))
                   (cbv; repeat (refine ⟨an_, ?_⟩; cbv))
               obtain ⟨next33, rfl⟩ : ∃ z, z = t := ⟨_, rfl⟩
               cbv
               obtain rfl := oj h
               refine hKn5 _ _ _ rfl (.nz (.mtE [0, 1, 2, 3, 4, 5, 6, 7, 8, 9, 10] ?_))
               (cbv; repeat (refine ⟨an_, ?_⟩; cbv))
             · cbv
               obtain rfl := oj h
               obtain rfl := hr5 _ rfl
               refine hKn4 _ _ _ rfl (.nz (.mtE [0, 1, 2, 3, 4, 5, 6, 7, 8, 9, 10] ?_))
               (cbv; repeat (refine ⟨an_, ?_⟩; cbv))
           obtain ⟨next30, rfl⟩ : ∃ z, z = t := ⟨_, rfl⟩
           cbv
           refine .g h (fun ((own42, c43, v44) : (List (ByteArray × Bool)) × (A10 Int) × Bool) => [oi attr, .d (.sl (W eIi64 alive)), .top, .ptr 0 0, .top, .ptr 5 0, .ptr 4 0, .ptr 6 0] ++ rp 5 .top ++ [.hd 9] ++ rp 52 .top ++ [.d (.sl (W eIi64 v21)), oi (io.len (W eIi64 v21)), oi v24] ++ rp 41 .top ++ [ob v44] ++ rp 6 .top) (fun ((own42, c43, v44) : (List (ByteArray × Bool)) × (A10 Int) × Bool) => [.cells [.fp (.sl (W eRule fd.policy.Rules) :: .sl (W eRanged fd.zones) :: cl fd.limits)] 59, .cells [.d (.sl (W eIi64 need))] 67, .cells [.clo (.func 55) [] [.ptr 7 0, .ptr 8 0]] 33, .mp .str false (WM Value.string eB own42), .cells [.hd 3] 81, .cells (ca c43) 32, .cells [.clo (.func 49) [] [.ptr 1 0, .ptr 0 0, .ptr 2 0, .ptr 5 0, .ptr 4 0, .ptr 6 0]] 85, .cells [.fp (.sl (W eRule fe.policy.Rules) :: .sl (W eRanged fe.zones) :: cl fe.limits)] 59, .cells [.d (.sl (W eRule less.Rules))] 24, .row 5 1 (W eIu8 name11)]) (fun y hm Kn4 hKn4 => ?_) fun t h => ?_
           · have h := hm
             clear hm
             cbv
             obtain ⟨r45, hm, h⟩ := Option.bind_eq_some_iff.1 h
             refine .embL [0, 1, 2, 3, 4, 5, 6, 7, 8] (hrec _ _ _ _ _ hm) (by (cbv; repeat (refine ⟨an_, ?_⟩; cbv))) fun sv0 own0 hq _ => ?_
             obtain ⟨rfl, rfl⟩ := hq
             clear hm
             cbv
             obtain rfl := oj h
             refine hKn4 _ _ _ rfl (.nz (.mtE [0, 1, 2, 3, 4, 5, 6, 7, 8, 9] ?_))
             (cbv; repeat (refine ⟨an_, ?_⟩; cbv))
           obtain ⟨own42, c43, v44⟩ := t
           cbv
           refine brkG h ?_ ?_ <;> intro h
           · cbv
             obtain rfl := oj h
             obtain rfl := hr3 _ rfl
             obtain rfl := hr2 _ rfl
             obtain rfl := hr1 _ rfl
             refine hK _ _ ?_
             (cbv; repeat (refine ⟨an_, ?_⟩; cbv))
           · cbv
             obtain rfl := oj h
             refine hKn3 _ _ _ rfl (.nz (.mtE [0, 1, 2, 3, 4, 5, 6, 7, 8, 9] ?_))
             (cbv; repeat (refine ⟨an_, ?_⟩; cbv))
         obtain ⟨own25, c26⟩ := t
         cbv
         obtain rfl := oj h
         refine hKn2 _ _ _ rfl (.nz (.mtE [0, 1, 2, 3, 4, 5, 6, 7, 8, 9] ?_))
         (cbv; repeat (refine ⟨an_, ?_⟩; cbv))
       · cbv
         obtain rfl := oj h
         obtain rfl := hr2 _ rfl
         refine hKn1 _ _ _ rfl (.nz (.mtE [0, 1, 2, 3, 4, 5, 6, 7, 8, 9] ?_))
         (cbv; repeat (refine ⟨an_, ?_⟩; cbv))
     obtain ⟨own19, c20⟩ := t
     cbv
     refine .g h (fun (c46 : (A10 Int)) => rp 6 .top ++ [.ptr 4 0] ++ rp 6 .top ++ [.hd 9] ++ rp 103 .top) (fun (c46 : (A10 Int)) => [.cells [.fp (.sl (W eRule fd.policy.Rules) :: .sl (W eRanged fd.zones) :: cl fd.limits)] 59, .cells [.d (.sl (W eIi64 need))] 67, .cells [.clo (.func 55) [] [.ptr 7 0, .ptr 8 0]] 33, .mp .str false (WM Value.string eB own19), .cells [.hd 3] 81, .cells (ca c46) 32, .cells [.clo (.func 49) [] [.ptr 1 0, .ptr 0 0, .ptr 2 0, .ptr 5 0, .ptr 4 0, .ptr 6 0]] 85, .cells [.fp (.sl (W eRule fe.policy.Rules) :: .sl (W eRanged fe.zones) :: cl fe.limits)] 59, .cells [.d (.sl (W eRule less.Rules))] 24, .row 5 1 (W eIu8 name11)]) (fun y hm Kn1 hKn1 => ?_) fun t h => ?_
     · have h := hm
       clear hm
       cbv
       refine .c10 h ?_ ?_ ?_ ?_ ?_ ?_ ?_ ?_ ?_ ?_ <;> (
         intro hni47 h
         cbv
         obtain rfl := oj h
         refine hKn1 _ _ _ rfl (.nz (.mtE [0, 1, 2, 3, 4, 5, 6, 7, 8, 9] ?_))
         (cbv; repeat (refine ⟨an_, ?_⟩; cbv))
         )
     obtain ⟨c46, rfl⟩ : ∃ z, z = t := ⟨_, rfl⟩
     cbv
     refine .g (e := eIu8) h (fun _ => rfl) (by first | rfl | exact W_nil' _) fun z48 h => ?_
     cbv
     refine .gs (e := eB) h (by first | rfl | exact WM_nil' _ _) aw_ fun m49 h => ?_
     cbv
     obtain rfl := oj h
     refine hK _ _ ?_
     (cbv; repeat (refine ⟨an_, ?_⟩; cbv))
noncomputable def search_differs (fd : Finder) (need : (List Int)) (fe : Finder) (less : Policy) : Nat → Int → List Int → (A10 Int) → (List (ByteArray × Bool)) → Option (Bool × (A10 Int) × (List (ByteArray × Bool)))
 | 0, _, _, _, _ => none
 | n + 1, attr, alive, facts, failed => search_differs_b fd need fe less (search_differs fd need fe less n) attr alive facts failed
theorem search_differs_all {P : Program} (hP : P = Try.prog) (fd : Finder) (need : (List Int)) (fe : Finder) (less : Policy) : ∀ (n : Nat) (attr : Int) (alive : List Int) (facts : (A10 Int)) (failed : (List (ByteArray × Bool))) (r : Bool × (A10 Int) × (List (ByteArray × Bool))), search_differs fd need fe less n attr alive facts failed = some r → SCall P 49 [.cells [.fp (.sl (W eRule fd.policy.Rules) :: .sl (W eRanged fd.zones) :: cl fd.limits)] 59, .cells [.d (.sl (W eIi64 need))] 67, .cells [.clo (.func 55) [] [.ptr 7 0, .ptr 8 0]] 33, .mp .str false (WM Value.string eB failed), .cells [.hd 3] 81, .cells (ca facts) 32, .cells [.clo (.func 49) [] [.ptr 1 0, .ptr 0 0, .ptr 2 0, .ptr 5 0, .ptr 4 0, .ptr 6 0]] 85, .cells [.fp (.sl (W eRule fe.policy.Rules) :: .sl (W eRanged fe.zones) :: cl fe.limits)] 59, .cells [.d (.sl (W eRule less.Rules))] 24] [oi attr, .d (.sl (W eIi64 alive)), .ptr 1 0, .ptr 0 0, .ptr 2 0, .ptr 5 0, .ptr 4 0, .ptr 6 0] (fun sv own' => sv = ob r.1 ∧ own' = [.cells [.fp (.sl (W eRule fd.policy.Rules) :: .sl (W eRanged fd.zones) :: cl fd.limits)] 59, .cells [.d (.sl (W eIi64 need))] 67, .cells [.clo (.func 55) [] [.ptr 7 0, .ptr 8 0]] 33, .mp .str false (WM Value.string eB r.2.2), .cells [.hd 3] 81, .cells (ca r.2.1) 32, .cells [.clo (.func 49) [] [.ptr 1 0, .ptr 0 0, .ptr 2 0, .ptr 5 0, .ptr 4 0, .ptr 6 0]] 85, .cells [.fp (.sl (W eRule fe.policy.Rules) :: .sl (W eRanged fe.zones) :: cl fe.limits)] 59, .cells [.d (.sl (W eRule less.Rules))] 24])
 | 0, _, _, _, _, _, h => by cases h
 | n + 1, attr, alive, facts, failed, r, h => search_differs_R hP fd need fe less _ attr alive facts failed (search_differs_all hP fd need fe less n) r h
end Go.SX.Cl
