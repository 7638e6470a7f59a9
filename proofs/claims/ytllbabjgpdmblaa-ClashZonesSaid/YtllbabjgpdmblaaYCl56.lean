/- Parts of the proof. -/
import Derived.Test.YtllbabjgpdmblaaYClT
namespace Go.SX.Cl
open Go Go.SX Go.Proofs
set_option maxRecDepth 100000
def c56r0 : List GOp := [
 gv 4 (.mv (.const (.slice none 0 0)))]
def c56r1 : List GOp := [
 gv 5 (.mv (.tmp 1)),
 gv 6 (.bin .lss (.tmp 5) (.const (.int .i64 0)))]
def c56r2 : List GOp := [
 gv 7 (.nope),
 ⟨none, .nope, none⟩]
def c56r3 : List GOp := [
 gv 8 (.mv (.tmp 1)),
 gv 9 (.mv (.tmp 0)),
 gv 10 (.capn (.tmp 9)),
 gv 11 (.mv (.tmp 0)),
 gv 12 (.len false (.tmp 11)),
 gv 13 (.bin .sub (.tmp 10) (.tmp 12)),
 gv 14 (.bin .sub (.tmp 8) (.tmp 13)),
 gv 1 (.mv (.tmp 14))]
def c56r4 : List GOp := [
 gv 15 (.mv (.tmp 1)),
 gv 16 (.bin .gtr (.tmp 15) (.const (.int .i64 0)))]
def c56r5 : List GOp := [
 gv 17 (.mv (.tmp 0)),
 gv 18 (.mv (.tmp 0)),
 gv 19 (.capn (.tmp 18)),
 gv 20 (.slc 13 (.tmp 17) none (some (.tmp 19))),
 gv 21 (.mv (.tmp 1)),
 gv 22 (.appz 35 13 104 (.agg #[oz, oz, oz, oz, oz, oz, oz, oz, oz, oz, oz, oz, oz]) (.tmp 20) (.tmp 21)),
 gv 23 (.mv (.tmp 0)),
 gv 24 (.len false (.tmp 23)),
 gv 25 (.slc 13 (.tmp 22) none (some (.tmp 24))),
 gv 0 (.mv (.tmp 25))]
def c56r6 : List GOp := [
 gv 26 (.mv (.tmp 0)),
 gv 4 (.mv (.tmp 26))]
def c56 : EFn := ⟨27, .seq (.reg c56r0) (.join (.seq (.reg c56r1) (.cond (.tmp 6) (.reg c56r2) (.skip))) (.join (.seq (.reg c56r3) (.seq (.reg c56r4) (.cond (.tmp 16) (.reg c56r5) (.skip)))) (.seq (.reg c56r6) (.ret)))), [.tmp 4]⟩
theorem c56_ok : compF Try.prog 56 = some c56.er := by kernel_rfl
noncomputable def slices_Grow_g (n : Int) : Option ((List Finding)) :=
 Option.bind (
 bif (io.lt n 0) then (
 none
 ) else (
 some ()
 )
 ) fun _ =>
 Option.bind (
 bif (io.lt 0 (io.ar .sub .i64 n (io.ar .sub .i64 0 0))) then (
 Option.bind (mksG (io.ar .sub .i64 n (io.ar .sub .i64 0 0)) ((Finding.mk 0 0 0 (A10.mk 0 0 0 0 0 0 0 0 0 0)) : Finding)) fun l2 =>
 Option.bind (headG l2 0) fun l3 =>
 some l3
 ) else (
 some []
 )
 ) fun s1 =>
 some s1
set_option maxHeartbeats 4000000 in
theorem slices_Grow_O {P : Program} (hP : P = Try.prog) (n : Int) (r : (List Finding)) (h : slices_Grow_g n = some r) : SCall P 56 [] [.d (.val (.slice none 0 0)), vIi64 n] (fun sv own' => sv = .hd 0 ∧ own' = [.row 35 13 (W eFinding r)]) := by
 refine .walkO (hP ▸ c56_ok) fun K hK => ?_
 unfold slices_Grow_g at h
 cbv
 refine .g h (fun (_ : Unit) => [.d (.val (.slice none 0 0)), oi n] ++ rp 25 .top) (fun (_ : Unit) => []) (fun y hm Kn1 hKn1 => ?_) fun t h => ?_
 · have h := hm
   clear hm
   cbv
   refine brkG h (fun h => ?_) (fun h => ?_)
   · cbv
     cases h
   · cbv
     obtain rfl := oj h
     refine hKn1 _ _ _ rfl (.nz0 (.mtE [] ?_))
     (cbv; repeat (refine ⟨an_, ?_⟩; cbv))
 cbv
 refine .g h (fun (s1 : (List Finding)) => [.hd 0] ++ rp 26 .top) (fun (s1 : (List Finding)) => [.row 35 13 (W eFinding s1)]) (fun y hm Kn1 hKn1 => ?_) fun t h => ?_
 · have h := hm
   clear hm
   cbv
   refine brkG h (fun h => ?_) (fun h => ?_)
   · cbv
     refine .g (e := eFinding) h (by first | rfl | exact W_nil _ | (cbv; simp only [W_nilx])) (by decide) fun l2 h => ?_
     cbv
     refine .own ?_
     cbv
     refine .g h fun l3 h => ?_
     cbv
     obtain rfl := oj h
     refine hKn1 _ _ _ rfl (.nz (.mtE [1] ?_))
     (cbv; repeat (refine ⟨an_, ?_⟩; cbv))
   · cbv
     obtain rfl := oj h
     refine hKn1 _ _ _ rfl (.nilr 0 35 13 rfl (.nz (.mtE [0] ?_)))
     (cbv; repeat (refine ⟨an_, ?_⟩; cbv))
 obtain ⟨s1, rfl⟩ : ∃ z, z = t := ⟨_, rfl⟩
 cbv
 obtain rfl := oj h
 exact hK _ _ (by first | rfl | exact W_nil _ | (cbv; simp only [W_nilx]))
end Go.SX.Cl
namespace Go.SX.Cl
open Go Go.SX Go.Proofs
set_option maxRecDepth 100000
def c29r0 : List GOp := [
 gv 2 (.mv (.const (.slice none 0 0)))]
def c29r1 : List GOp := [
 gv 3 (.mv (.const (.int .i64 0)))]
def c29r2 : List GOp := [
 gv 9 (.mv (.tmp 0)),
 gv 10 (.len false (.tmp 9)),
 gv 11 (.mv (.const (.int .i64 0)))]
def c29r3 : List GOp := [
 gv 12 (.bin .lss (.tmp 11) (.tmp 10))]
def c29r4 : List GOp := [
 gv 13 (.idxA 1 (.tmp 9) (.tmp 11)),
 gv 14 (.load 1 false (.tmp 13)),
 gv 5 (.mv (.tmp 14))]
def c29r5 : List GOp := [
 gv 15 (.mv (.tmp 3)),
 gv 16 (.mv (.tmp 5)),
 gv 17 (.len false (.tmp 16)),
 gv 18 (.bin .add (.tmp 15) (.tmp 17)),
 gv 3 (.mv (.tmp 18))]
def c29r6 : List GOp := [
 gv 19 (.mv (.tmp 3)),
 gv 20 (.bin .lss (.tmp 19) (.const (.int .i64 0)))]
def c29r7 : List GOp := [
 gv 21 (.nope),
 ⟨none, .nope, none⟩]
def c29r8 : List GOp := [
 gv 22 (.bin .add (.tmp 11) (.const (.int .i64 1))),
 gv 11 (.mv (.tmp 22))]
def c29l9 : DE := .seq (.reg c29r3) (.seq (.cond (.tmp 12) (.skip) (.exit 0)) (.join (.block 1 (.seq (.reg c29r4) (.seq (.reg c29r5) (.seq (.reg c29r6) (.cond (.tmp 20) (.reg c29r7) (.skip)))))) (.reg c29r8)))
def c29r10 : List GOp := [
 gv 23 (.mv (.tmp 3)),
 gv 24 (.call 56 [(.const (.slice none 0 0)), (.tmp 23)]),
 gv 6 (.mv (.tmp 24))]
def c29r11 : List GOp := [
 gv 25 (.mv (.tmp 0)),
 gv 26 (.len false (.tmp 25)),
 gv 27 (.mv (.const (.int .i64 0)))]
def c29r12 : List GOp := [
 gv 28 (.bin .lss (.tmp 27) (.tmp 26))]
def c29r13 : List GOp := [
 gv 29 (.idxA 1 (.tmp 25) (.tmp 27)),
 gv 30 (.load 1 false (.tmp 29)),
 gv 8 (.mv (.tmp 30))]
def c29r14 : List GOp := [
 gv 31 (.mv (.tmp 6)),
 gv 32 (.mv (.tmp 8)),
 gv 33 (.app 35 13 104 (.agg #[oz, oz, oz, oz, oz, oz, oz, oz, oz, oz, oz, oz, oz]) (.tmp 31) (.tmp 32)),
 gv 6 (.mv (.tmp 33))]
def c29r15 : List GOp := [
 gv 34 (.bin .add (.tmp 27) (.const (.int .i64 1))),
 gv 27 (.mv (.tmp 34))]
def c29l16 : DE := .seq (.reg c29r12) (.seq (.cond (.tmp 28) (.skip) (.exit 2)) (.seq (.block 3 (.seq (.reg c29r13) (.reg c29r14))) (.reg c29r15)))
def c29r17 : List GOp := [
 gv 35 (.mv (.tmp 6)),
 gv 2 (.mv (.tmp 35))]
def c29 : EFn := ⟨36, .seq (.reg c29r0) (.seq (.reg c29r1) (.join (.seq (.reg c29r2) (.block 0 (.loop c29l9))) (.seq (.reg c29r10) (.join (.seq (.reg c29r11) (.block 2 (.loop c29l16))) (.seq (.reg c29r17) (.ret)))))), [.tmp 2]⟩
theorem c29_ok : compF Try.prog 29 = some c29.er := by kernel_rfl
noncomputable def slices_Concat_l2 (slices : (List (List Finding))) : (Int × Int) → Option ((Int × Int) ⊕ (Int))
 | (size2, v3) =>
 bif (io.lt v3 (io.len (W eLFinding slices))) then (
 Option.bind (
 Option.bind (idxG slices v3) fun x5 =>
 bif (io.lt (io.ar .add .i64 size2 (io.len (W eFinding x5))) 0) then (
 none
 ) else (
 some (io.ar .add .i64 size2 (io.len (W eFinding x5)))
 )
 ) fun size4 =>
 some (.inl (size4, (io.ar .add .i64 v3 1)))
 ) else (
 some (.inr size2)
 )
noncomputable def slices_Concat_l4 (slices : (List (List Finding))) : ((List Finding) × Int) → Option (((List Finding) × Int) ⊕ ((List Finding)))
 | (newslice8, v9) =>
 bif (io.lt v9 (io.len (W eLFinding slices))) then (
 Option.bind (idxG slices v9) fun x10 =>
 Option.bind (appG newslice8 x10) fun newslice11 =>
 some (.inl (newslice11, (io.ar .add .i64 v9 1)))
 ) else (
 some (.inr newslice8)
 )
noncomputable def slices_Concat_g (slices : (List (List Finding))) : Option ((List Finding)) :=
 Option.bind (
 whileG (slices_Concat_l2 slices) (0, 0)
 ) fun size1 =>
 Option.bind (slices_Grow_g size1) fun l6 =>
 Option.bind (
 whileG (slices_Concat_l4 slices) (l6, 0)
 ) fun newslice7 =>
 some newslice7
set_option maxHeartbeats 4000000 in
theorem slices_Concat_R {P : Program} (hP : P = Try.prog) (slices : (List (List Finding))) (r : (List Finding)) (h : slices_Concat_g slices = some r) : Fn1 P 29 [vLLFinding slices] (vLFinding r) := by
 refine .walkE (hP ▸ c29_ok) fun K hK => ?_
 unfold slices_Concat_g at h
 cbv
 refine .g h (fun (size1 : Int) => [.d (.sl (W eLFinding slices)), .top, .top, oi size1] ++ rp 32 .top) (fun (size1 : Int) => []) (fun y hm Kn1 hKn1 => ?_) fun t h => ?_
 · have h := hm
   clear hm
   cbv
   refine .g h (fun ((size2, v3) : Int × Int) => [.d (.sl (W eLFinding slices)), .top, .top, oi size2] ++ rp 5 .top ++ [.d (.sl (W eLFinding slices)), oi (io.len (W eLFinding slices)), oi v3] ++ rp 24 .top) (fun ((size2, v3) : Int × Int) => []) (.nz (.mtE [] ?_)) fun s x h hr2 Kn2 hKn2 => ?_
   · (cbv; repeat (refine ⟨an_, ?_⟩; cbv))
   unfold slices_Concat_l2 at h
   obtain ⟨size2, v3⟩ := s
   cbv
   refine brkG h (fun h => ?_) (fun h => ?_)
   · cbv
     refine .g h (fun (size4 : Int) => [.d (.sl (W eLFinding slices)), .top, .top, oi size4] ++ rp 5 .top ++ [.d (.sl (W eLFinding slices)), oi (io.len (W eLFinding slices)), oi v3] ++ rp 24 .top) (fun (size4 : Int) => []) (fun y hm Kn3 hKn3 => ?_) fun t h => ?_
     · have h := hm
       clear hm
       cbv
       refine .g h (fun _ => rfl) fun x5 h => ?_
       cbv
       refine brkG h (fun h => ?_) (fun h => ?_)
       · cbv
         cases h
       · cbv
         obtain rfl := oj h
         refine hKn3 _ _ _ rfl (.nz (.mtE [] ?_))
         (cbv; repeat (refine ⟨an_, ?_⟩; cbv))
     obtain ⟨size4, rfl⟩ : ∃ z, z = t := ⟨_, rfl⟩
     cbv
     obtain rfl := oj h
     refine hKn2 _ _ _ rfl (.nz (.mtE [] ?_))
     (cbv; repeat (refine ⟨an_, ?_⟩; cbv))
   · cbv
     obtain rfl := oj h
     obtain rfl := hr2 _ rfl
     refine hKn1 _ _ _ rfl (.nz (.mtE [] ?_))
     (cbv; repeat (refine ⟨an_, ?_⟩; cbv))
 obtain ⟨size1, rfl⟩ : ∃ z, z = t := ⟨_, rfl⟩
 cbv
 obtain ⟨l6, hm, h⟩ := Option.bind_eq_some_iff.1 h
 refine .emb [] (slices_Grow_O hP _ _ hm) (by (cbv; repeat (refine ⟨an_, ?_⟩; cbv))) fun sv0 own0 hq _ => ?_
 obtain ⟨rfl, rfl⟩ := hq
 clear hm
 cbv
 refine .g h (fun (newslice7 : (List Finding)) => rp 6 .top ++ [.hd 0] ++ rp 29 .top) (fun (newslice7 : (List Finding)) => [.row 35 13 (W eFinding newslice7)]) (fun y hm Kn1 hKn1 => ?_) fun t h => ?_
 · have h := hm
   clear hm
   cbv
   refine .g h (fun ((newslice8, v9) : (List Finding) × Int) => rp 6 .top ++ [.hd 0] ++ rp 18 .top ++ [.d (.sl (W eLFinding slices)), oi (io.len (W eLFinding slices)), oi v9] ++ rp 8 .top) (fun ((newslice8, v9) : (List Finding) × Int) => [.row 35 13 (W eFinding newslice8)]) (.nz (.mtE [0] ?_)) fun s x h hr2 Kn2 hKn2 => ?_
   · (cbv; repeat (refine ⟨an_, ?_⟩; cbv))
   unfold slices_Concat_l4 at h
   obtain ⟨newslice8, v9⟩ := s
   cbv
   refine brkG h (fun h => ?_) (fun h => ?_)
   · cbv
     refine .g h (fun _ => rfl) fun x10 h => ?_
     cbv
     refine .g h rfl (fun _ => rfl) (by decide) fun newslice11 h => ?_
     cbv
     obtain rfl := oj h
     refine hKn2 _ _ _ rfl (.nz (.mtE [1] ?_))
     (cbv; repeat (refine ⟨an_, ?_⟩; cbv))
   · cbv
     obtain rfl := oj h
     obtain rfl := hr2 _ rfl
     refine hKn1 _ _ _ rfl (.nz (.mtE [0] ?_))
     (cbv; repeat (refine ⟨an_, ?_⟩; cbv))
 obtain ⟨newslice7, rfl⟩ : ∃ z, z = t := ⟨_, rfl⟩
 cbv
 obtain rfl := oj h
 exact hK _ _ (by first | rfl | exact W_nil _ | (cbv; simp only [W_nilx]))
end Go.SX.Cl
namespace Go.SX.Cl
open Go Go.SX Go.Proofs
set_option maxRecDepth 100000
def c54r0 : List GOp := [
 gv 2 (.mv (.const (.slice none 0 0)))]
def c54r1 : List GOp := [
 gv 3 (.mv (.tmp 0)),
 gv 4 (.snl false (.tmp 3))]
def c54r2 : List GOp := [
 gv 2 (.mv (.const (.slice none 0 0)))]
def c54r3 : List GOp := [
 gv 5 (.bslice 41 8 0 (.agg #[oz, (.string ⟨#[]⟩), (.slice none 0 0), oz, oz, oz, oz, oz]) []),
 gv 6 (.mv (.tmp 0)),
 gv 7 (.app 41 8 88 (.agg #[oz, (.string ⟨#[]⟩), (.slice none 0 0), oz, oz, oz, oz, oz]) (.tmp 5) (.tmp 6)),
 gv 2 (.mv (.tmp 7))]
def c54 : EFn := ⟨8, .seq (.reg c54r0) (.seq (.seq (.reg c54r1) (.cond (.tmp 4) (.seq (.reg c54r2) (.ret)) (.skip))) (.seq (.reg c54r3) (.ret))), [.tmp 2]⟩
theorem c54_ok : compF Try.prog 54 = some c54.er := by kernel_rfl
noncomputable def slices_Clone_g (s : (List Rule)) : Option ((List Rule)) :=
 nilQ s fun b1 =>
 bif b1 then (
 some []
 ) else (
 Option.bind (some ([] : List Rule)) fun l2 =>
 Option.bind (appG l2 s) fun l3 =>
 some l3
 )
set_option maxHeartbeats 4000000 in
theorem slices_Clone_O {P : Program} (hP : P = Try.prog) (s : (List Rule)) (r : (List Rule)) (h : slices_Clone_g s = some r) : SCall P 54 [] [vLRule s] (fun sv own' => sv = .hd 0 ∧ own' = [.row 41 8 (W eRule r)]) := by
 refine .walkO (hP ▸ c54_ok) fun K hK => ?_
 unfold slices_Clone_g at h
 cbv
 refine .g h fun b1 h => ?_
 cbv
 refine brkG h (fun h => ?_) (fun h => ?_)
 · cbv
   obtain rfl := oj h
   exact hK _ _ (by first | rfl | exact W_nil _ | (cbv; simp only [W_nilx]))
 · cbv
   refine .g (e := eRule) h (W_nil' _) fun l2 h => ?_
   cbv
   refine .g h rfl (fun _ => rfl) (by decide) fun l3 h => ?_
   cbv
   obtain rfl := oj h
   exact hK _ _ (by first | rfl | exact W_nil _ | (cbv; simp only [W_nilx]))
end Go.SX.Cl
