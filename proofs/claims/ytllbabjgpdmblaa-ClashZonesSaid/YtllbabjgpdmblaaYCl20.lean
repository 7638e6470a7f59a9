/- Parts of the proof. -/
import Derived.Test.YtllbabjgpdmblaaYClT
import Derived.Test.YtllbabjgpdmblaaYCl15
import Derived.Test.YtllbabjgpdmblaaYCl44
namespace Go.SX.Cl
open Go Go.SX Go.Proofs
set_option maxRecDepth 100000
def c47r0 : List GOp := [
 gv 4 (.mv (.const (.bool false)))]
def c47r1 : List GOp := [
 gv 5 (.mv (.tmp 0)),
 gv 6 (.mv (.tmp 1)),
 gv 7 (.call 63 [(.tmp 5), (.tmp 6)]),
 gv 8 (.bin .geq (.tmp 7) (.const (.int .i64 0))),
 gv 4 (.mv (.tmp 8))]
def c47 : EFn := ⟨9, .seq (.reg c47r0) (.seq (.reg c47r1) (.ret)), [.tmp 4]⟩
theorem c47_ok : compF Try.prog 47 = some c47.er := by kernel_rfl
def c63r0 : List GOp := [
 gv 4 (.mv (.const (.int .i64 0)))]
def c63r1 : List GOp := [
 gv 6 (.mv (.tmp 0)),
 gv 7 (.len false (.tmp 6)),
 gv 8 (.mv (.const (.int .i64 0)))]
def c63r2 : List GOp := [
 gv 9 (.bin .lss (.tmp 8) (.tmp 7))]
def c63r3 : List GOp := [
 gv 10 (.mv (.tmp 8)),
 gv 5 (.mv (.tmp 10))]
def c63r4 : List GOp := [
 gv 11 (.mv (.tmp 1)),
 gv 12 (.mv (.tmp 0)),
 gv 13 (.mv (.tmp 5)),
 gv 14 (.idxA 8 (.tmp 12) (.tmp 13)),
 gv 15 (.load 8 true (.tmp 14)),
 gv 16 (.callv (.tmp 11) [(.tmp 15)])]
def c63r5 : List GOp := [
 gv 17 (.mv (.tmp 5)),
 gv 4 (.mv (.tmp 17))]
def c63r6 : List GOp := [
 gv 18 (.bin .add (.tmp 8) (.const (.int .i64 1))),
 gv 8 (.mv (.tmp 18))]
def c63l7 : DE := .seq (.reg c63r2) (.seq (.cond (.tmp 9) (.skip) (.exit 0)) (.seq (.block 1 (.seq (.reg c63r3) (.join (.reg c63r4) (.cond (.tmp 16) (.seq (.reg c63r5) (.ret)) (.skip))))) (.reg c63r6)))
def c63r8 : List GOp := [
 gv 4 (.mv (.const (.int .i64 (-1))))]
def c63 : EFn := ⟨19, .seq (.reg c63r0) (.join (.seq (.reg c63r1) (.block 0 (.loop c63l7))) (.seq (.reg c63r8) (.ret))), [.tmp 4]⟩
theorem c63_ok : compF Try.prog 63 = some c63.er := by kernel_rfl
def c43r0 : List GOp := [
 gv 2 (.box 41 (.tmp 0)),
 gv 3 (.mv (.const (.bool false)))]
def c43r1 : List GOp := [
 gv 5 (.load 1 false (.tmp 1)),
 gv 6 (.fadd 1 (.tmp 2)),
 gv 7 (.load 1 false (.tmp 6)),
 gv 8 (.mget .str false false (.bool false) (.tmp 5) (.tmp 7)),
 gv 4 (.mv (.tmp 8))]
def c43r2 : List GOp := [
 gv 9 (.load 1 false (.tmp 1)),
 gv 10 (.fadd 1 (.tmp 2)),
 gv 11 (.load 1 false (.tmp 10)),
 ⟨none, .mset .str false (.tmp 9) (.tmp 11) (.const (.bool true)), none⟩]
def c43r3 : List GOp := [
 gv 12 (.mv (.tmp 4)),
 gv 13 (.mv (.tmp 12)),
 gw 14 13 false (.load 8 true (.tmp 2)),
 gw 15 13 false (.call 44 [(.tmp 14)]),
 gw 16 13 false (.un .not (.tmp 15)),
 gv 17 (.pick (.tmp 13) (.const (.bool true)) (.tmp 16)),
 gv 18 (.mv (.tmp 17)),
 gw 19 18 false (.fadd 2 (.tmp 2)),
 gw 20 18 false (.load 1 false (.tmp 19)),
 gw 21 18 false (.len false (.tmp 20)),
 gw 22 18 false (.bin .gtr (.tmp 21) (.const (.int .i64 200))),
 gv 23 (.pick (.tmp 18) (.const (.bool true)) (.tmp 22)),
 gv 24 (.mv (.tmp 23)),
 gw 25 24 false (.fadd 2 (.tmp 2)),
 gw 26 24 false (.load 1 false (.tmp 25)),
 gw 27 24 false (.call 34 [(.tmp 26), (.func 45)]),
 gv 28 (.pick (.tmp 24) (.const (.bool true)) (.tmp 27)),
 gv 3 (.mv (.tmp 28))]
def c43 : EFn := ⟨29, .seq (.reg c43r0) (.seq (.reg c43r1) (.seq (.reg c43r2) (.seq (.reg c43r3) (.ret)))), [.tmp 3]⟩
theorem c43_ok : compF Try.prog 43 = some c43.er := by kernel_rfl
def c45r0 : List GOp := [
 gv 1 (.box 54 (.tmp 0)),
 gv 2 (.mv (.const (.bool false)))]
def c45r1 : List GOp := [
 gv 3 (.load 20 true (.tmp 1)),
 gv 4 (.call 46 [(.tmp 3)]),
 gv 5 (.un .not (.tmp 4)),
 gv 2 (.mv (.tmp 5))]
def c45 : EFn := ⟨6, .seq (.reg c45r0) (.seq (.reg c45r1) (.ret)), [.tmp 2]⟩
theorem c45_ok : compF Try.prog 45 = some c45.er := by kernel_rfl
def c20r0 : List GOp := [
 gv 1 (.box 24 (.tmp 0)),
 gv 2 (.mv (.const (.bool false)))]
def c20r1 : List GOp := [
 gv 5 (.mkm .str false),
 gv 3 (.alloc 81 (.map none)),
 ⟨none, .store 1 (.tmp 3) (.tmp 5), none⟩]
def c20r2 : List GOp := [
 gv 6 (.mkfn (.func 43) [] [(.tmp 3)]),
 gv 4 (.mv (.tmp 6))]
def c20r3 : List GOp := [
 gv 7 (.fadd 0 (.tmp 1)),
 gv 8 (.load 1 false (.tmp 7)),
 gv 9 (.len false (.tmp 8)),
 gv 10 (.bin .leq (.tmp 9) (.const (.int .i64 200))),
 gv 11 (.mv (.tmp 10)),
 gw 12 11 true (.fadd 0 (.tmp 1)),
 gw 13 11 true (.load 1 false (.tmp 12)),
 gw 14 11 true (.mv (.tmp 4)),
 gw 15 11 true (.call 47 [(.tmp 13), (.tmp 14)]),
 gw 16 11 true (.un .not (.tmp 15)),
 gv 17 (.pick (.tmp 11) (.tmp 16) (.const (.bool false))),
 gv 2 (.mv (.tmp 17))]
def c20 : EFn := ⟨18, .seq (.reg c20r0) (.seq (.reg c20r1) (.seq (.reg c20r2) (.seq (.reg c20r3) (.ret)))), [.tmp 2]⟩
theorem c20_ok : compF Try.prog 20 = some c20.er := by kernel_rfl
noncomputable def decide_Valid_l26 (x6 : Rule) (m8 : (List (ByteArray × Bool))) : Int → Option ((Int) ⊕ ((Unit) ⊕ ((List (ByteArray × Bool)) × Bool)))
 | v10 =>
 bif (io.lt v10 (io.len (W eA10Range x6.Zones))) then (
 Option.bind (
 Option.bind (idxG x6.Zones v10) fun x12 =>
 Option.bind (decide_within_g x12) fun v13 =>
 some (io.not v13)
 ) fun v11 =>
 bif v11 then (
 some (.inr (.inr (m8, (io.le 0 v10))))
 ) else (
 some (.inl (io.ar .add .i64 v10 1))
 )
 ) else (
 some (.inr (.inl ()))
 )
noncomputable def decide_Valid_l22 (p : Policy) : ((List (ByteArray × Bool)) × Int) → Option (((List (ByteArray × Bool)) × Int) ⊕ (((List (ByteArray × Bool))) ⊕ (Bool)))
 | (own2, v3) =>
 bif (io.lt v3 (io.len (W eRule p.Rules))) then (
 Option.bind (
 Option.bind (idxG p.Rules v3) fun x6 =>
 Option.bind (some (mlookD own2 x6.Name false)) fun y7 =>
 Option.bind (some (mputG own2 x6.Name true)) fun m8 =>
 bif y7 then (
 some (m8, true)
 ) else (
 Option.bind (decide_numbers_g x6) fun v9 =>
 bif (io.not v9) then (
 some (m8, true)
 ) else (
 bif (io.lt 200 (io.len (W eA10Range x6.Zones))) then (
 some (m8, true)
 ) else (
 orR (
 whileG (decide_Valid_l26 x6 m8) 0
 ) fun _ =>
 some (m8, (io.le 0 (-1)))
 )
 )
 )
 ) fun (own4, v5) =>
 bif v5 then (
 some (.inr (.inr (io.not (io.le 0 v3))))
 ) else (
 some (.inl (own4, (io.ar .add .i64 v3 1)))
 )
 ) else (
 some (.inr (.inl own2))
 )
noncomputable def decide_Valid_g (p : Policy) : Option (Bool) :=
 bif (io.le (io.len (W eRule p.Rules)) 200) then (
 orR (
 whileG (decide_Valid_l22 p) ([], 0)
 ) fun _ =>
 some (io.not (io.le 0 (-1)))
 ) else (
 some false
 )
set_option maxHeartbeats 4000000 in
theorem decide_Valid_R {P : Program} (hP : P = Try.prog) (p : Policy) (r : Bool) (h : decide_Valid_g p = some r) : Fn1 P 20 [vPolicy p] (vB r) := by
 refine .walkE (hP ▸ c20_ok) fun K hK => ?_
 unfold decide_Valid_g at h
 cbv
 refine brkG h (fun h => ?_) (fun h => ?_)
 · cbv
   refine .inl (hP ▸ c47_ok) ?_
   cbv
   refine .inl (hP ▸ c63_ok) ?_
   cbv
   refine .ga h (fun (own1 : (List (ByteArray × Bool))) => rp 19 .top) (fun (own1 : (List (ByteArray × Bool))) => [.cells [.d (.sl (W eRule p.Rules))] 24, .mp .str false (WM Value.string eB own1), .cells [.hd 1] 81]) (fun y hm hr1 Kn1 hKn1 => ?_) fun t h => ?_
   · have h := hm
     clear hm
     cbv
     refine .g h (fun ((own2, v3) : (List (ByteArray × Bool)) × Int) => [.d (.sl (W eRule p.Rules)), .clo (.func 43) [] [.ptr 2 0]] ++ rp 5 .top ++ [oi (io.len (W eRule p.Rules)), oi v3] ++ rp 10 .top) (fun ((own2, v3) : (List (ByteArray × Bool)) × Int) => [.cells [.d (.sl (W eRule p.Rules))] 24, .mp .str false (WM Value.string eB own2), .cells [.hd 1] 81]) (.nz (.mtE [0, 1, 2] ?_)) fun s x h hr2 Kn2 hKn2 => ?_
     · (cbv; repeat (refine ⟨an_, ?_⟩; cbv))
     unfold decide_Valid_l22 at h
     obtain ⟨own2, v3⟩ := s
     cbv
     refine brkG h (fun h => ?_) (fun h => ?_)
     · cbv
       refine .g h (fun ((own4, v5) : (List (ByteArray × Bool)) × Bool) => [.d (.sl (W eRule p.Rules)), .clo (.func 43) [] [.ptr 2 0]] ++ rp 3 .top ++ [oi v3, .top, oi (io.len (W eRule p.Rules)), oi v3] ++ rp 7 .top ++ [ob v5, .top, .top]) (fun ((own4, v5) : (List (ByteArray × Bool)) × Bool) => [.cells [.d (.sl (W eRule p.Rules))] 24, .mp .str false (WM Value.string eB own4), .cells [.hd 1] 81]) (fun y hm Kn3 hKn3 => ?_) fun t h => ?_
       · have h := hm
         clear hm
         cbv
         refine .g h (fun _ => rfl) fun x6 h => ?_
         cbv
         refine .inl (hP ▸ c43_ok) ?_
         cbv
         refine .gs (e := eB) h (by first | rfl | exact WM_nil' _ _) (fun h => h) fun y7 h => ?_
         cbv
         refine .gs (e := eB) h (by first | rfl | exact WM_nil' _ _) (by first | rfl | exact W_nil _ | (cbv; simp only [W_nilx])) fun m8 h => ?_
         cbv
         refine brkG h (fun h => ?_) (fun h => ?_)
         · cbv
           obtain rfl := oj h
           refine hKn3 _ _ _ rfl (.nz (.mtE [0, 1, 2] ?_))
           (cbv; repeat (refine ⟨an_, ?_⟩; cbv))
         · cbv
           refine .g h (fun v hv => decide_numbers_R hP _ v hv) (by first | rfl | exact W_nil _ | (cbv; simp only [W_nilx])) rfl (fun _ => rfl) fun v9 h => ?_
           cbv
           refine brkG h (fun h => ?_) (fun h => ?_)
           · cbv
             obtain rfl := oj h
             refine hKn3 _ _ _ rfl (.nz (.mtE [0, 1, 2] ?_))
             (cbv; repeat (refine ⟨an_, ?_⟩; cbv))
           · cbv
             refine brkG h (fun h => ?_) (fun h => ?_)
             · cbv
               obtain rfl := oj h
               refine hKn3 _ _ _ rfl (.nz (.mtE [0, 1, 2] ?_))
               (cbv; repeat (refine ⟨an_, ?_⟩; cbv))
             · cbv
               refine .inl (hP ▸ c34_ok) ?_
               cbv
               refine .inl (hP ▸ c61_ok) ?_
               cbv
               refine .ga h (fun (_ : Unit) => rp 19 .top) (fun (_ : Unit) => [.cells [.d (.sl (W eRule p.Rules))] 24, .mp .str false (WM Value.string eB m8), .cells [.hd 1] 81, .cells [oi x6.Kind, .d (.val (.string x6.Name)), .d (.sl (W eA10Range x6.Zones)), oi x6.N, oi x6.R.Num, oi x6.R.Den, oi x6.S.Num, oi x6.S.Den] 41]) (fun y hm hr4 Kn4 hKn4 => ?_) fun t h => ?_
               · have h := hm
                 clear hm
                 cbv
                 refine .g h (fun (v10 : Int) => [.d (.sl (W eA10Range x6.Zones)), .clo (.func 45) [] []] ++ rp 5 .top ++ [oi (io.len (W eA10Range x6.Zones)), oi v10] ++ rp 10 .top) (fun (v10 : Int) => [.cells [.d (.sl (W eRule p.Rules))] 24, .mp .str false (WM Value.string eB m8), .cells [.hd 1] 81, .cells [oi x6.Kind, .d (.val (.string x6.Name)), .d (.sl (W eA10Range x6.Zones)), oi x6.N, oi x6.R.Num, oi x6.R.Den, oi x6.S.Num, oi x6.S.Den] 41]) (.nz (.mtE [0, 1, 2, 3] ?_)) fun s x h hr5 Kn5 hKn5 => ?_
                 · (cbv; repeat (refine ⟨an_, ?_⟩; cbv))
                 unfold decide_Valid_l26 at h
                 obtain ⟨v10, rfl⟩ : ∃ z, z = s := ⟨_, rfl⟩
                 cbv
                 refine brkG h (fun h => ?_) (fun h => ?_)
                 · cbv
                   refine .g h (fun (v11 : Bool) => [.d (.sl (W eA10Range x6.Zones)), .clo (.func 45) [] []] ++ rp 3 .top ++ [oi v10, .top, oi (io.len (W eA10Range x6.Zones)), oi v10] ++ rp 7 .top ++ [ob v11, .top, .top]) (fun (v11 : Bool) => [.cells [.d (.sl (W eRule p.Rules))] 24, .mp .str false (WM Value.string eB m8), .cells [.hd 1] 81, .cells [oi x6.Kind, .d (.val (.string x6.Name)), .d (.sl (W eA10Range x6.Zones)), oi x6.N, oi x6.R.Num, oi x6.R.Den, oi x6.S.Num, oi x6.S.Den] 41]) (fun y hm Kn6 hKn6 => ?_) fun t h => ?_
                   · have h := hm
                     clear hm
                     cbv
                     refine .g h (fun _ => rfl) fun x12 h => ?_
                     cbv
                     refine .inl (hP ▸ c45_ok) ?_
                     cbv
                     refine .g h (fun v hv => decide_within_R hP _ v hv) (by first | rfl | exact W_nil _ | (cbv; simp only [W_nilx])) rfl (fun _ => rfl) fun v13 h => ?_
                     cbv
                     obtain rfl := oj h
                     refine hKn6 _ _ _ rfl (.nz (.mtE [0, 1, 2, 3] ?_))
                     (cbv; repeat (refine ⟨an_, ?_⟩; cbv))
                   obtain ⟨v11, rfl⟩ : ∃ z, z = t := ⟨_, rfl⟩
                   cbv
                   refine brkG h (fun h => ?_) (fun h => ?_)
                   · cbv
                     obtain rfl := oj h
                     obtain rfl := hr5 _ rfl
                     obtain rfl := hr4 _ rfl
                     refine hKn3 _ _ _ rfl (.nz (.mtE [0, 1, 2] ?_))
                     (cbv; repeat (refine ⟨an_, ?_⟩; cbv))
                   · cbv
                     obtain rfl := oj h
                     refine hKn5 _ _ _ rfl (.nz (.mtE [0, 1, 2, 3] ?_))
                     (cbv; repeat (refine ⟨an_, ?_⟩; cbv))
                 · cbv
                   obtain rfl := oj h
                   obtain rfl := hr5 _ rfl
                   refine hKn4 _ _ _ rfl (.nz (.mtE [0, 1, 2, 3] ?_))
                   (cbv; repeat (refine ⟨an_, ?_⟩; cbv))
               cbv
               obtain rfl := oj h
               refine hKn3 _ _ _ rfl (.nz (.mtE [0, 1, 2] ?_))
               (cbv; repeat (refine ⟨an_, ?_⟩; cbv))
       obtain ⟨own4, v5⟩ := t
       cbv
       refine brkG h (fun h => ?_) (fun h => ?_)
       · cbv
         obtain rfl := oj h
         obtain rfl := hr2 _ rfl
         obtain rfl := hr1 _ rfl
         exact hK _ _ (by first | rfl | exact W_nil _ | (cbv; simp only [W_nilx]))
       · cbv
         obtain rfl := oj h
         refine hKn2 _ _ _ rfl (.nz (.mtE [0, 1, 2] ?_))
         (cbv; repeat (refine ⟨an_, ?_⟩; cbv))
     · cbv
       obtain rfl := oj h
       obtain rfl := hr2 _ rfl
       refine hKn1 _ _ _ rfl (.nz (.mtE [0, 1, 2] ?_))
       (cbv; repeat (refine ⟨an_, ?_⟩; cbv))
   obtain ⟨own1, rfl⟩ : ∃ z, z = t := ⟨_, rfl⟩
   cbv
   obtain rfl := oj h
   exact hK _ _ (by first | rfl | exact W_nil _ | (cbv; simp only [W_nilx]))
 · cbv
   obtain rfl := oj h
   exact hK _ _ (by first | rfl | exact W_nil _ | (cbv; simp only [W_nilx]))
end Go.SX.Cl
