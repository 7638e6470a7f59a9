/- Parts of the proof. -/
import Derived.Test.YtllbabjgpdmblaaZClT
import Derived.Test.YtllbabjgpdmblaaZClLaccept
import Derived.Test.YtllbabjgpdmblaaZClSdiffers
set_option linter.unusedSimpArgs false
set_option linter.unusedVariables false
namespace Go.SX.Cl
open Go Go.SX Go.Proofs
set_option maxRecDepth 100000
noncomputable def least_differs_l2 (l1 : (List Int)) : ((List Int) × Int) → Option (((List Int) × Int) ⊕ ((List Int)))
 | (all3, v4) =>
 bif (io.lt v4 (io.len (W eIi64 l1))) then (
 Option.bind (rixG all3 v4) fun i5 =>
 Option.bind (updG all3 i5 fun y6 => v4) fun l7 =>
 some (.inl (l7, (io.ar .add .i64 v4 1)))
 ) else (
 some (.inr all3)
 )
noncomputable def least_differs_b (fd : Finder) (need : (List Int)) (fe : Finder) (less : Policy) : Option ((A10 Int) × Bool) :=
 Option.bind (mksG (io.len (W eRanged fd.zones)) (0 : Int)) fun l1 =>
 Option.bind (
 whileG (least_differs_l2 l1) (l1, 0)
 ) fun all2 =>
 Option.bind (
 Option.bind (search_differs fd need fe less 11 0 all2 (A10.mk 0 0 0 0 0 0 0 0 0 0) ([] : (List (ByteArray × Bool)))) fun r10 =>
 some (r10.2.1, (io.not r10.1))
 ) fun (facts8, v9) =>
 bif v9 then (
 some ((A10.mk 0 0 0 0 0 0 0 0 0 0), false)
 ) else (
 some (facts8, true)
 )
set_option maxHeartbeats 8000000 in
theorem least_differs_R {P : Program} (hP : P = Try.prog) (fd : Finder) (need : (List Int)) (fe : Finder) (less : Policy) (r : (A10 Int) × Bool) (h : least_differs_b fd need fe less = some r) : SCall P 26 [.cells [.fp (.sl (W eRule fe.policy.Rules) :: .sl (W eRanged fe.zones) :: cl fe.limits)] 59, .cells [.d (.sl (W eRule less.Rules))] 24] [.fp (.sl (W eRule fd.policy.Rules) :: .sl (W eRanged fd.zones) :: cl fd.limits), .d (.sl (W eIi64 need)), .clo (.func 55) [] [.ptr 0 0, .ptr 1 0]] (fun sv own' => sv = .tup [vA10Ii64 r.1, ob r.2] ∧ own' = [.cells [.fp (.sl (W eRule fe.policy.Rules) :: .sl (W eRanged fe.zones) :: cl fe.limits)] 59, .cells [.d (.sl (W eRule less.Rules))] 24]) := by
 refine .walkT [0, 1] 2 rfl rfl (by decide) (by decide) (hP ▸ c26_ok) fun K hK => ?_
 unfold least_differs_b at h
 cbv
 refine .g (e := eIi64) h aw_ (by decide) fun l1 h => ?_
 cbv
 refine .g h (fun (all2 : (List Int)) => rp 6 .top ++ [.ptr 2 0, .top, .top, .ptr 3 0, .ptr 4 0, .hd 10] ++ rp 25 .top) (fun (all2 : (List Int)) => [.cells [.fp (.sl (W eRule fe.policy.Rules) :: .sl (W eRanged fe.zones) :: cl fe.limits)] 59, .cells [.d (.sl (W eRule less.Rules))] 24, .cells [oi 0, oi 0, oi 0, oi 0, oi 0, oi 0, oi 0, oi 0, oi 0, oi 0] 32, .cells [oi 0, oi 0, oi 0, oi 0, oi 0, oi 0, oi 0, oi 0, oi 0, oi 0] 32, .cells [.clo (.func 49) [] [.ptr 5 0, .ptr 6 0, .ptr 7 0, .ptr 3 0, .ptr 8 0, .ptr 4 0]] 85, .cells [.d (.sl (W eIi64 need))] 67, .cells [.fp (.sl (W eRule fd.policy.Rules) :: .sl (W eRanged fd.zones) :: cl fd.limits)] 59, .cells [.clo (.func 55) [] [.ptr 0 0, .ptr 1 0]] 33, .cells [.hd 9] 81, .mp .str false (WM Value.string eB []), .row 3 1 (W eIi64 all2)]) (fun y hm Kn1 hKn1 => ?_) fun t h => ?_
 · have h := hm
   clear hm
   cbv
   refine .g h (fun ((all3, v4) : (List Int) × Int) => rp 6 .top ++ [.ptr 2 0, .top, .top, .ptr 3 0, .ptr 4 0, .hd 10] ++ rp 10 .top ++ [oi (io.len (W eIi64 l1)), oi v4] ++ rp 13 .top) (fun ((all3, v4) : (List Int) × Int) => [.cells [.fp (.sl (W eRule fe.policy.Rules) :: .sl (W eRanged fe.zones) :: cl fe.limits)] 59, .cells [.d (.sl (W eRule less.Rules))] 24, .cells [oi 0, oi 0, oi 0, oi 0, oi 0, oi 0, oi 0, oi 0, oi 0, oi 0] 32, .cells [oi 0, oi 0, oi 0, oi 0, oi 0, oi 0, oi 0, oi 0, oi 0, oi 0] 32, .cells [.clo (.func 49) [] [.ptr 5 0, .ptr 6 0, .ptr 7 0, .ptr 3 0, .ptr 8 0, .ptr 4 0]] 85, .cells [.d (.sl (W eIi64 need))] 67, .cells [.fp (.sl (W eRule fd.policy.Rules) :: .sl (W eRanged fd.zones) :: cl fd.limits)] 59, .cells [.clo (.func 55) [] [.ptr 0 0, .ptr 1 0]] 33, .cells [.hd 9] 81, .mp .str false (WM Value.string eB []), .row 3 1 (W eIi64 all3)]) (.nz (.mtE [0, 1, 5, 8, 9, 3, 2, 4, 7, 6, 10] ?_)) fun s x h hr2 Kn2 hKn2 => ?_
   · (cbv; repeat (refine ⟨an_, ?_⟩; cbv))
   unfold least_differs_l2 at h
   obtain ⟨all3, v4⟩ := s
   cbv
   refine brkG h ?_ ?_ <;> intro h
   · cbv
     refine .g h fun i5 h => ?_
     cbv
     refine .g h (fun _ => by first | rfl | exact W_nil _ | (cbv; simp only [W_nilx])) fun l7 h => ?_
     cbv
     obtain rfl := oj h
     refine hKn2 _ _ _ rfl (.nz (.mtE [0, 1, 2, 3, 4, 5, 6, 7, 8, 9, 10] ?_))
     (cbv; repeat (refine ⟨an_, ?_⟩; cbv))
   · cbv
     obtain rfl := oj h
     obtain rfl := hr2 _ rfl
     refine hKn1 _ _ _ rfl (.nz (.mtE [0, 1, 2, 3, 4, 5, 6, 7, 8, 9, 10] ?_))
     (cbv; repeat (refine ⟨an_, ?_⟩; cbv))
 obtain ⟨all2, rfl⟩ : ∃ z, z = t := ⟨_, rfl⟩
 cbv
 refine .g h (fun ((facts8, v9) : (A10 Int) × Bool) => rp 6 .top ++ [.ptr 2 0, .top, .top, .ptr 3 0] ++ rp 24 .top ++ [ob v9, .top, .top]) (fun ((facts8, v9) : (A10 Int) × Bool) => [.cells [.fp (.sl (W eRule fe.policy.Rules) :: .sl (W eRanged fe.zones) :: cl fe.limits)] 59, .cells [.d (.sl (W eRule less.Rules))] 24, .cells [oi 0, oi 0, oi 0, oi 0, oi 0, oi 0, oi 0, oi 0, oi 0, oi 0] 32, .cells (ca facts8) 32]) (fun y hm Kn1 hKn1 => ?_) fun t h => ?_
 · have h := hm
   clear hm
   cbv
   obtain ⟨r10, hm, h⟩ := Option.bind_eq_some_iff.1 h
   refine .embL [6, 5, 7, 9, 8, 3, 4, 0, 1] (search_differs_all hP fd need fe less 11 _ _ _ _ _ hm) (by (cbv; repeat (refine ⟨an_, ?_⟩; cbv))) fun sv0 own0 hq _ => ?_
   obtain ⟨rfl, rfl⟩ := hq
   clear hm
   cbv
   obtain rfl := oj h
   refine hKn1 _ _ _ rfl (.nz (.mtE [0, 1, 2, 3] ?_))
   (cbv; repeat (refine ⟨an_, ?_⟩; cbv))
 obtain ⟨facts8, v9⟩ := t
 cbv
 refine brkG h ?_ ?_ <;> intro h
 · cbv
   obtain rfl := oj h
   refine hK _ _ ?_
   (cbv; repeat (refine ⟨an_, ?_⟩; cbv))
 · cbv
   obtain rfl := oj h
   refine hK _ _ ?_
   (cbv; repeat (refine ⟨an_, ?_⟩; cbv))
end Go.SX.Cl
