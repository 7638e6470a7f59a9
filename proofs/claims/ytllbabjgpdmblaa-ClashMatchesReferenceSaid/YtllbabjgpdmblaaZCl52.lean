/- Parts of the proof. -/
import Derived.Test.YtllbabjgpdmblaaZClT
import Derived.Test.YtllbabjgpdmblaaZClShelf
set_option linter.unusedSimpArgs false
set_option linter.unusedVariables false
namespace Go.SX.Cl
open Go Go.SX Go.Proofs
set_option maxRecDepth 100000
def c52r0 : List GOp := [
 gv 6 (.mv (.const (.slice none 0 0)))]
def c52r1 : List GOp := [
 gv 11 (.mv (.tmp 0)),
 gv 12 (.mv (.tmp 1)),
 gv 13 (.nilck (.tmp 11)),
 gv 14 (.fadd 2 (.tmp 13)),
 gv 15 (.idxP 10 2 (.tmp 14) (.tmp 12)),
 gv 16 (.fadd 0 (.tmp 15)),
 gv 17 (.load 1 false (.tmp 16)),
 gv 18 (.bslice 3 1 1 oz [(0, (.tmp 17))]),
 gv 7 (.mv (.tmp 18))]
def c52r2 : List GOp := [
 gv 19 (.mv (.tmp 2)),
 gv 20 (.len false (.tmp 19)),
 gv 21 (.mv (.const (.int .i64 0)))]
def c52r3 : List GOp := [
 gv 22 (.bin .lss (.tmp 21) (.tmp 20))]
def c52r4 : List GOp := [
 gv 23 (.idxA 1 (.tmp 19) (.tmp 21)),
 gv 24 (.load 1 false (.tmp 23)),
 gv 9 (.mv (.tmp 24))]
def c52r5 : List GOp := [
 gv 25 (.mv (.tmp 0)),
 gv 26 (.nilck (.tmp 25)),
 gv 27 (.fadd 1 (.tmp 26)),
 gv 28 (.load 1 false (.tmp 27)),
 gv 29 (.mv (.tmp 9)),
 gv 30 (.mv (.tmp 1)),
 gv 31 (.idxA 21 (.tmp 28) (.tmp 29)),
 gv 32 (.fadd 1 (.tmp 31)),
 gv 33 (.idxP 10 2 (.tmp 32) (.tmp 30)),
 gv 34 (.load 2 true (.tmp 33)),
 gv 10 (.alloc 52 (.agg #[oz, oz])),
 ⟨none, .store 2 (.tmp 10) (.tmp 34), none⟩]
def c52r6 : List GOp := [
 gv 35 (.mv (.tmp 7)),
 gv 36 (.fadd 0 (.tmp 10)),
 gv 37 (.load 1 false (.tmp 36)),
 gv 38 (.bslice 3 1 1 oz [(0, (.tmp 37))]),
 gv 39 (.app 3 1 8 oz (.tmp 35) (.tmp 38)),
 gv 7 (.mv (.tmp 39))]
def c52r7 : List GOp := [
 gv 40 (.fadd 1 (.tmp 10)),
 gv 41 (.load 1 false (.tmp 40)),
 gv 42 (.mv (.tmp 0)),
 gv 43 (.mv (.tmp 1)),
 gv 44 (.nilck (.tmp 42)),
 gv 45 (.fadd 2 (.tmp 44)),
 gv 46 (.idxP 10 2 (.tmp 45) (.tmp 43)),
 gv 47 (.fadd 1 (.tmp 46)),
 gv 48 (.load 1 false (.tmp 47)),
 gv 49 (.bin .lss (.tmp 41) (.tmp 48))]
def c52r8 : List GOp := [
 gv 50 (.mv (.tmp 7)),
 gv 51 (.fadd 1 (.tmp 10)),
 gv 52 (.load 1 false (.tmp 51)),
 gv 53 (.bin .add (.tmp 52) (.const (.int .i64 1))),
 gv 54 (.bslice 3 1 1 oz [(0, (.tmp 53))]),
 gv 55 (.app 3 1 8 oz (.tmp 50) (.tmp 54)),
 gv 7 (.mv (.tmp 55))]
def c52r9 : List GOp := [
 gv 56 (.bin .add (.tmp 21) (.const (.int .i64 1))),
 gv 21 (.mv (.tmp 56))]
def c52l10 : DE := .seq (.reg c52r3) (.seq (.cond (.tmp 22) (.skip) (.exit 0)) (.join (.block 1 (.seq (.reg c52r4) (.join (.reg c52r5) (.seq (.reg c52r6) (.join (.par true true true 9 c52r7) (.cond (.tmp 49) (.reg c52r8) (.skip))))))) (.reg c52r9)))
def c52r11 : List GOp := [
 gv 57 (.mv (.tmp 7)),
 gv 58 (.call 66 [(.tmp 57)])]
def c52r12 : List GOp := [
 gv 59 (.mv (.tmp 7)),
 gv 60 (.call 67 [(.tmp 59)]),
 gv 6 (.mv (.tmp 60))]
def c52 : EFn := ⟨61, .seq (.reg c52r0) (.join (.reg c52r1) (.join (.seq (.reg c52r2) (.block 0 (.loop c52l10))) (.join (.reg c52r11) (.seq (.reg c52r12) (.ret))))), [.tmp 6]⟩
theorem c52_ok : compF Try.prog 52 = some c52.er := by kernel_rfl
noncomputable def clash_finder_cuts_l2 (alive : (List Int)) (s : Finder) (attr : Int) : ((List Int) × Int) → Option (((List Int) × Int) ⊕ ((List Int)))
 | (out5, v6) =>
 bif (io.lt v6 (io.len (W eIi64 alive))) then (
 Option.bind (
 Option.bind (idxG alive v6) fun x8 =>
 Option.bind (
 Option.bind (idxG s.zones x8) fun x11 =>
 Option.bind (pixG 10 attr) fun i12 =>
 some ((x11.zone.get i12).Lo, (x11.zone.get i12).Hi)
 ) fun (Lo9, Hi10) =>
 Option.bind (some [Lo9]) fun l13 =>
 Option.bind (appG out5 l13) fun out14 =>
 Option.bind (
 Option.bind (pixG 10 attr) fun ix16 =>
 some (io.lt Hi10 (s.limits.get ix16).Hi)
 ) fun v15 =>
 bif v15 then (
 Option.bind (some [(io.ar .add .i64 Hi10 1)]) fun l17 =>
 Option.bind (appG out14 l17) fun out18 =>
 some out18
 ) else (
 some out14
 )
 ) fun out7 =>
 some (.inl (out7, (io.ar .add .i64 v6 1)))
 ) else (
 some (.inr out5)
 )
noncomputable def clash_finder_cuts_g (s : Finder) (attr : Int) (alive : (List Int)) : Option ((List Int)) :=
 Option.bind (
 Option.bind (pixG 10 attr) fun i2 =>
 Option.bind (some [(s.limits.get i2).Lo]) fun out3 =>
 some out3
 ) fun out1 =>
 Option.bind (
 whileG (clash_finder_cuts_l2 alive s attr) (out1, 0)
 ) fun out4 =>
 Option.bind (
 Option.bind (sortG out4) fun l20 =>
 some l20
 ) fun out19 =>
 Option.bind (compG out19) fun l21 =>
 some l21
set_option maxHeartbeats 4000000 in
theorem clash_finder_cuts_R {P : Program} (hP : P = Try.prog) (s : Finder) (attr : Int) (alive : (List Int)) (r : (List Int)) (h : clash_finder_cuts_g s attr alive = some r) : Fn1 P 52 [vPFinder s, vIi64 attr, vLIi64 alive] (vLIi64 r) := by
 refine .walkE (hP ▸ c52_ok) fun K hK => ?_
 unfold clash_finder_cuts_g at h
 cbv
 refine .g h (fun (out1 : (List Int)) => [.fp (.sl (W eRule s.policy.Rules) :: .sl (W eRanged s.zones) :: cl s.limits), oi attr, .d (.sl (W eIi64 alive))] ++ rp 4 .top ++ [.hd 0] ++ rp 53 .top) (fun (out1 : (List Int)) => [.row 3 1 (W eIi64 out1)]) (fun y hm Kn1 hKn1 => ?_) fun t h => ?_
 · have h := hm
   clear hm
   cbv
   refine .c10 h ?_ ?_ ?_ ?_ ?_ ?_ ?_ ?_ ?_ ?_ <;> (
     intro hni2 h
     cbv
     refine .g (e := eIi64) h (W_cons aw_ (W_nil' _)) fun out3 h => ?_
     cbv
     obtain rfl := oj h
     refine hKn1 _ _ _ rfl (.nz (.mtE [0] ?_))
     (cbv; repeat (refine ⟨an_, ?_⟩; cbv))
     )
 obtain ⟨out1, rfl⟩ : ∃ z, z = t := ⟨_, rfl⟩
 cbv
 refine .g h (fun (out4 : (List Int)) => rp 7 .top ++ [.hd 0] ++ rp 53 .top) (fun (out4 : (List Int)) => [.row 3 1 (W eIi64 out4)]) (fun y hm Kn1 hKn1 => ?_) fun t h => ?_
 · have h := hm
   clear hm
   cbv
   refine .g h (fun ((out5, v6) : (List Int) × Int) => [.fp (.sl (W eRule s.policy.Rules) :: .sl (W eRanged s.zones) :: cl s.limits), oi attr] ++ rp 5 .top ++ [.hd 0] ++ rp 11 .top ++ [.d (.sl (W eIi64 alive)), oi (io.len (W eIi64 alive)), oi v6] ++ rp 39 .top) (fun ((out5, v6) : (List Int) × Int) => [.row 3 1 (W eIi64 out5)]) (.nz (.mtE [0] ?_)) fun s x h hr2 Kn2 hKn2 => ?_
   · (cbv; repeat (refine ⟨an_, ?_⟩; cbv))
   unfold clash_finder_cuts_l2 at h
   obtain ⟨out5, v6⟩ := s
   cbv
   refine brkG h ?_ ?_ <;> intro h
   · cbv
     refine .g h (fun (out7 : (List Int)) => [.fp (.sl (W eRule s.policy.Rules) :: .sl (W eRanged s.zones) :: cl s.limits), oi attr] ++ rp 5 .top ++ [.hd 0] ++ rp 11 .top ++ [.d (.sl (W eIi64 alive)), oi (io.len (W eIi64 alive)), oi v6] ++ rp 39 .top) (fun (out7 : (List Int)) => [.row 3 1 (W eIi64 out7)]) (fun y hm Kn3 hKn3 => ?_) fun t h => ?_
     · have h := hm
       clear hm
       cbv
       refine .g h (fun _ => rfl) fun x8 h => ?_
       cbv
       refine .g h (fun ((Lo9, Hi10) : Int × Int) => [.fp (.sl (W eRule s.policy.Rules) :: .sl (W eRanged s.zones) :: cl s.limits), oi attr] ++ rp 5 .top ++ [.hd 0, .top, .top, .ptr 1 0] ++ rp 8 .top ++ [.d (.sl (W eIi64 alive)), oi (io.len (W eIi64 alive)), oi v6] ++ rp 39 .top) (fun ((Lo9, Hi10) : Int × Int) => [.row 3 1 (W eIi64 out5), .cells [oi Lo9, oi Hi10] 52]) (fun y hm Kn4 hKn4 => ?_) fun t h => ?_
       · have h := hm
         clear hm
         cbv
         refine .g h (fun _ => rfl) fun x11 h => ?_
         cbv
         refine .c10 h ?_ ?_ ?_ ?_ ?_ ?_ ?_ ?_ ?_ ?_ <;> (
           intro hni12 h
           cbv
           obtain rfl := oj h
           refine hKn4 _ _ _ rfl (.nz (.mtE [0, 1] ?_))
           (cbv; repeat (refine ⟨an_, ?_⟩; cbv))
           )
       obtain ⟨Lo9, Hi10⟩ := t
       cbv
       refine .g (e := eIi64) h (W_cons aw_ (W_nil' _)) fun l13 h => ?_
       cbv
       refine .g h rfl (fun _ => rfl) (by decide) fun out14 h => ?_
       cbv
       refine .g h (fun (v15 : Bool) => [.fp (.sl (W eRule s.policy.Rules) :: .sl (W eRanged s.zones) :: cl s.limits), oi attr] ++ rp 5 .top ++ [.hd 0, .top, .top, .ptr 1 0] ++ rp 8 .top ++ [.d (.sl (W eIi64 alive)), oi (io.len (W eIi64 alive)), oi v6] ++ rp 27 .top ++ [ob v15] ++ rp 11 .top) (fun (v15 : Bool) => [.row 3 1 (W eIi64 out14), .cells [oi Lo9, oi Hi10] 52]) (fun y hm Kn4 hKn4 => ?_) fun t h => ?_
       · have h := hm
         clear hm
         cbv
         refine .c10 h ?_ ?_ ?_ ?_ ?_ ?_ ?_ ?_ ?_ ?_ <;> (
           intro hnix16 h
           cbv
           obtain rfl := oj h
           refine hKn4 _ _ _ rfl (.nz (.mtE [3, 1] ?_))
           (cbv; repeat (refine ⟨an_, ?_⟩; cbv))
           )
       obtain ⟨v15, rfl⟩ : ∃ z, z = t := ⟨_, rfl⟩
       cbv
       refine brkG h ?_ ?_ <;> intro h
       · cbv
         refine .g (e := eIi64) h (W_cons aw_ (W_nil' _)) fun l17 h => ?_
         cbv
         refine .g h rfl (fun _ => rfl) (by decide) fun out18 h => ?_
         cbv
         obtain rfl := oj h
         refine hKn3 _ _ _ rfl (.nz (.mtE [3] ?_))
         (cbv; repeat (refine ⟨an_, ?_⟩; cbv))
       · cbv
         obtain rfl := oj h
         refine hKn3 _ _ _ rfl (.nz (.mtE [0] ?_))
         (cbv; repeat (refine ⟨an_, ?_⟩; cbv))
     obtain ⟨out7, rfl⟩ : ∃ z, z = t := ⟨_, rfl⟩
     cbv
     obtain rfl := oj h
     refine hKn2 _ _ _ rfl (.nz (.mtE [0] ?_))
     (cbv; repeat (refine ⟨an_, ?_⟩; cbv))
   · cbv
     obtain rfl := oj h
     obtain rfl := hr2 _ rfl
     refine hKn1 _ _ _ rfl (.nz (.mtE [0] ?_))
     (cbv; repeat (refine ⟨an_, ?_⟩; cbv))
 obtain ⟨out4, rfl⟩ : ∃ z, z = t := ⟨_, rfl⟩
 cbv
 refine .g h (fun (out19 : (List Int)) => rp 7 .top ++ [.hd 0] ++ rp 53 .top) (fun (out19 : (List Int)) => [.row 3 1 (W eIi64 out19)]) (fun y hm Kn1 hKn1 => ?_) fun t h => ?_
 · have h := hm
   clear hm
   cbv
   obtain ⟨l20, hm, h⟩ := Option.bind_eq_some_iff.1 h
   refine .emb [0] (slices_Sort_R hP _ _ hm) (by (cbv; repeat (refine ⟨an_, ?_⟩; cbv))) fun sv0 own0 hq _ => ?_
   obtain ⟨rfl, rfl⟩ := hq
   clear hm
   cbv
   obtain rfl := oj h
   refine hKn1 _ _ _ rfl (.nz (.mtE [0] ?_))
   (cbv; repeat (refine ⟨an_, ?_⟩; cbv))
 obtain ⟨out19, rfl⟩ : ∃ z, z = t := ⟨_, rfl⟩
 cbv
 obtain ⟨l21, hm, h⟩ := Option.bind_eq_some_iff.1 h
 refine .emb [0] (slices_Compact_R hP _ _ hm) (by (cbv; repeat (refine ⟨an_, ?_⟩; cbv))) fun sv0 own0 hq _ => ?_
 obtain ⟨rfl, rfl⟩ := hq
 clear hm
 cbv
 obtain rfl := oj h
 exact hK _ _ aw_
end Go.SX.Cl
