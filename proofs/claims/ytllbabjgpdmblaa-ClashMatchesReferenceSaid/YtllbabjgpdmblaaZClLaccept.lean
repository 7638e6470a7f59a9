/- Parts of the proof. -/
import Derived.Test.YtllbabjgpdmblaaZClT
import Derived.Test.YtllbabjgpdmblaaZClSaccept
set_option linter.unusedSimpArgs false
set_option linter.unusedVariables false
namespace Go.SX.Cl
open Go Go.SX Go.Proofs
set_option maxRecDepth 100000
def c26r0 : List GOp := [
 gv 3 (.box 59 (.tmp 0)),
 gv 4 (.box 67 (.tmp 1)),
 gv 5 (.box 33 (.tmp 2)),
 gv 6 (.alloc 32 (.agg #[oz, oz, oz, oz, oz, oz, oz, oz, oz, oz])),
 gv 7 (.mv (.const (.bool false)))]
def c26r1 : List GOp := [
 gv 13 (.mkm .str false),
 gv 8 (.alloc 81 (.map none)),
 ⟨none, .store 1 (.tmp 8) (.tmp 13), none⟩]
def c26r2 : List GOp := [
 gv 9 (.alloc 32 (.agg #[oz, oz, oz, oz, oz, oz, oz, oz, oz, oz]))]
def c26r3 : List GOp := [
 gv 10 (.alloc 85 .nilFunc)]
def c26r4 : List GOp := [
 gv 14 (.mkfn (.func 49) [] [(.tmp 4), (.tmp 3), (.tmp 5), (.tmp 9), (.tmp 8), (.tmp 10)]),
 ⟨none, .store 1 (.tmp 10) (.tmp 14), none⟩]
def c26r5 : List GOp := [
 gv 15 (.load 1 false (.tmp 3)),
 gv 16 (.nilck (.tmp 15)),
 gv 17 (.fadd 1 (.tmp 16)),
 gv 18 (.load 1 false (.tmp 17)),
 gv 19 (.len false (.tmp 18)),
 gv 20 (.mks 3 1 8 oz (.tmp 19) (.tmp 19)),
 gv 11 (.mv (.tmp 20))]
def c26r6 : List GOp := [
 gv 21 (.mv (.tmp 11)),
 gv 22 (.len false (.tmp 21)),
 gv 23 (.mv (.const (.int .i64 0)))]
def c26r7 : List GOp := [
 gv 24 (.bin .lss (.tmp 23) (.tmp 22))]
def c26r8 : List GOp := [
 gv 25 (.mv (.tmp 23)),
 gv 12 (.mv (.tmp 25))]
def c26r9 : List GOp := [
 gv 26 (.mv (.tmp 11)),
 gv 27 (.mv (.tmp 12)),
 gv 28 (.mv (.tmp 12)),
 gv 29 (.idxA 1 (.tmp 26) (.tmp 27)),
 ⟨none, .store 1 (.tmp 29) (.tmp 28), none⟩]
def c26r10 : List GOp := [
 gv 30 (.bin .add (.tmp 23) (.const (.int .i64 1))),
 gv 23 (.mv (.tmp 30))]
def c26l11 : DE := .seq (.reg c26r7) (.seq (.cond (.tmp 24) (.skip) (.exit 0)) (.seq (.block 1 (.seq (.reg c26r8) (.reg c26r9))) (.reg c26r10)))
def c26r12 : List GOp := [
 gv 31 (.load 1 false (.tmp 10)),
 gv 32 (.mv (.tmp 11)),
 gv 33 (.callv (.tmp 31) [(.const (.int .i64 0)), (.tmp 32)]),
 gv 34 (.un .not (.tmp 33))]
def c26r13 : List GOp := [
 gv 35 (.build (.agg #[oz, oz, oz, oz, oz, oz, oz, oz, oz, oz]) []),
 ⟨none, .store 10 (.tmp 6) (.tmp 35), none⟩,
 gv 7 (.mv (.const (.bool false)))]
def c26r14 : List GOp := [
 gv 36 (.load 10 true (.tmp 9)),
 ⟨none, .store 10 (.tmp 6) (.tmp 36), none⟩,
 gv 7 (.mv (.const (.bool true)))]
def c26 : EFn := ⟨37, .seq (.reg c26r0) (.seq (.reg c26r1) (.seq (.reg c26r2) (.seq (.reg c26r3) (.seq (.reg c26r4) (.seq (.reg c26r5) (.join (.seq (.reg c26r6) (.block 0 (.loop c26l11))) (.seq (.join (.reg c26r12) (.cond (.tmp 34) (.seq (.reg c26r13) (.ret)) (.skip))) (.seq (.reg c26r14) (.ret))))))))), [.cell 6 10 true, .tmp 7]⟩
theorem c26_ok : compF Try.prog 26 = some c26.er := by kernel_rfl
noncomputable def least_accept_l2 (l1 : (List Int)) : ((List Int) × Int) → Option (((List Int) × Int) ⊕ ((List Int)))
 | (all3, v4) =>
 bif (io.lt v4 (io.len (W eIi64 l1))) then (
 Option.bind (rixG all3 v4) fun i5 =>
 Option.bind (updG all3 i5 fun y6 => v4) fun l7 =>
 some (.inl (l7, (io.ar .add .i64 v4 1)))
 ) else (
 some (.inr all3)
 )
noncomputable def least_accept_b (fd : Finder) (need : (List Int)) : Option ((A10 Int) × Bool) :=
 Option.bind (mksG (io.len (W eRanged fd.zones)) (0 : Int)) fun l1 =>
 Option.bind (
 whileG (least_accept_l2 l1) (l1, 0)
 ) fun all2 =>
 Option.bind (
 Option.bind (search_accept fd need 11 0 all2 (A10.mk 0 0 0 0 0 0 0 0 0 0) ([] : (List (ByteArray × Bool)))) fun r10 =>
 some (r10.2.1, (io.not r10.1))
 ) fun (facts8, v9) =>
 bif v9 then (
 some ((A10.mk 0 0 0 0 0 0 0 0 0 0), false)
 ) else (
 some (facts8, true)
 )
set_option maxHeartbeats 8000000 in
theorem least_accept_R {P : Program} (hP : P = Try.prog) (fd : Finder) (need : (List Int)) (r : (A10 Int) × Bool) (h : least_accept_b fd need = some r) : SCall P 26 [] [.fp (.sl (W eRule fd.policy.Rules) :: .sl (W eRanged fd.zones) :: cl fd.limits), .d (.sl (W eIi64 need)), .clo (.func 28) [] []] (fun sv own' => sv = .tup [vA10Ii64 r.1, ob r.2] ∧ own' = []) := by
 refine .walkT [] 0 rfl rfl (by decide) (by decide) (hP ▸ c26_ok) fun K hK => ?_
 unfold least_accept_b at h
 cbv
 refine .g (e := eIi64) h aw_ (by decide) fun l1 h => ?_
 cbv
 refine .g h (fun (all2 : (List Int)) => rp 6 .top ++ [.ptr 0 0, .top, .top, .ptr 1 0, .ptr 2 0, .hd 8] ++ rp 25 .top) (fun (all2 : (List Int)) => [.cells [oi 0, oi 0, oi 0, oi 0, oi 0, oi 0, oi 0, oi 0, oi 0, oi 0] 32, .cells [oi 0, oi 0, oi 0, oi 0, oi 0, oi 0, oi 0, oi 0, oi 0, oi 0] 32, .cells [.clo (.func 49) [] [.ptr 3 0, .ptr 4 0, .ptr 5 0, .ptr 1 0, .ptr 6 0, .ptr 2 0]] 85, .cells [.d (.sl (W eIi64 need))] 67, .cells [.fp (.sl (W eRule fd.policy.Rules) :: .sl (W eRanged fd.zones) :: cl fd.limits)] 59, .cells [.clo (.func 28) [] []] 33, .cells [.hd 7] 81, .mp .str false (WM Value.string eB []), .row 3 1 (W eIi64 all2)]) (fun y hm Kn1 hKn1 => ?_) fun t h => ?_
 · have h := hm
   clear hm
   cbv
   refine .g h (fun ((all3, v4) : (List Int) × Int) => rp 6 .top ++ [.ptr 0 0, .top, .top, .ptr 1 0, .ptr 2 0, .hd 8] ++ rp 10 .top ++ [oi (io.len (W eIi64 l1)), oi v4] ++ rp 13 .top) (fun ((all3, v4) : (List Int) × Int) => [.cells [oi 0, oi 0, oi 0, oi 0, oi 0, oi 0, oi 0, oi 0, oi 0, oi 0] 32, .cells [oi 0, oi 0, oi 0, oi 0, oi 0, oi 0, oi 0, oi 0, oi 0, oi 0] 32, .cells [.clo (.func 49) [] [.ptr 3 0, .ptr 4 0, .ptr 5 0, .ptr 1 0, .ptr 6 0, .ptr 2 0]] 85, .cells [.d (.sl (W eIi64 need))] 67, .cells [.fp (.sl (W eRule fd.policy.Rules) :: .sl (W eRanged fd.zones) :: cl fd.limits)] 59, .cells [.clo (.func 28) [] []] 33, .cells [.hd 7] 81, .mp .str false (WM Value.string eB []), .row 3 1 (W eIi64 all3)]) (.nz (.mtE [3, 6, 7, 1, 0, 2, 5, 4, 8] ?_)) fun s x h hr2 Kn2 hKn2 => ?_
   · (cbv; repeat (refine ⟨an_, ?_⟩; cbv))
   unfold least_accept_l2 at h
   obtain ⟨all3, v4⟩ := s
   cbv
   refine brkG h ?_ ?_ <;> intro h
   · cbv
     refine .g h fun i5 h => ?_
     cbv
     refine .g h (fun _ => by first | rfl | exact W_nil _ | (cbv; simp only [W_nilx])) fun l7 h => ?_
     cbv
     obtain rfl := oj h
     refine hKn2 _ _ _ rfl (.nz (.mtE [0, 1, 2, 3, 4, 5, 6, 7, 8] ?_))
     (cbv; repeat (refine ⟨an_, ?_⟩; cbv))
   · cbv
     obtain rfl := oj h
     obtain rfl := hr2 _ rfl
     refine hKn1 _ _ _ rfl (.nz (.mtE [0, 1, 2, 3, 4, 5, 6, 7, 8] ?_))
     (cbv; repeat (refine ⟨an_, ?_⟩; cbv))
 obtain ⟨all2, rfl⟩ : ∃ z, z = t := ⟨_, rfl⟩
 cbv
 refine .g h (fun ((facts8, v9) : (A10 Int) × Bool) => rp 6 .top ++ [.ptr 0 0, .top, .top, .ptr 1 0] ++ rp 24 .top ++ [ob v9, .top, .top]) (fun ((facts8, v9) : (A10 Int) × Bool) => [.cells [oi 0, oi 0, oi 0, oi 0, oi 0, oi 0, oi 0, oi 0, oi 0, oi 0] 32, .cells (ca facts8) 32]) (fun y hm Kn1 hKn1 => ?_) fun t h => ?_
 · have h := hm
   clear hm
   cbv
   obtain ⟨r10, hm, h⟩ := Option.bind_eq_some_iff.1 h
   refine .embL [4, 3, 5, 7, 6, 1, 2] (search_accept_all hP fd need 11 _ _ _ _ _ hm) (by (cbv; repeat (refine ⟨an_, ?_⟩; cbv))) fun sv0 own0 hq _ => ?_
   obtain ⟨rfl, rfl⟩ := hq
   clear hm
   cbv
   obtain rfl := oj h
   refine hKn1 _ _ _ rfl (.nz (.mtE [0, 1] ?_))
   (cbv; repeat (refine ⟨an_, ?_⟩; cbv))
 obtain ⟨facts8, v9⟩ := t
 cbv
 refine brkG h ?_ ?_ <;> intro h
 · cbv
   obtain rfl := oj h
   refine hK _ _ ?_
   (cbv; repeat (refine ⟨an_, ?_⟩; cbv))
 · cbv
   obtain rfl := oj h
   refine hK _ _ ?_
   (cbv; repeat (refine ⟨an_, ?_⟩; cbv))
end Go.SX.Cl
