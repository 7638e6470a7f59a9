/- Parts of the proof. -/
import Derived.Test.YtllbabjgpdmblaaDoorZTdT
import Derived.Test.YtllbabjgpdmblaaDoorZTd39d
import Derived.Test.YtllbabjgpdmblaaDoorZTdSort
set_option linter.unusedSimpArgs false
set_option linter.unusedVariables false
set_option linter.unusedSectionVars false
namespace Go.SX.Td
open Go Go.SX Go.Proofs
set_option maxRecDepth 100000
def c41r0 : List GOp := [
 ⟨(some 3), .mv (.tmp 0), none⟩,
 ⟨(some 4), .load 1 false (.tmp 1), none⟩,
 ⟨(some 5), .bin .eql (.tmp 3) (.tmp 4), none⟩]
def c41r1 : List GOp := [
 ⟨(some 6), .load 1 false (.tmp 1), none⟩,
 ⟨(some 7), .bin .add (.tmp 6) (.const (.int .i64 1)), none⟩,
 ⟨none, .store 1 (.tmp 1) (.tmp 7), none⟩]
def c41 : EFn := ⟨8, .seq (.reg c41r0) (.cond (.tmp 5) (.reg c41r1) (.skip)), []⟩
theorem c41_ok : compF Tryd.prog 41 = some c41.er := by kernel_rfl
def c71r0 : List GOp := [
 ⟨(some 8), .load 1 false (.tmp 1), none⟩,
 ⟨(some 9), .mv (.tmp 0), none⟩,
 ⟨(some 10), .mget (.int .i64) false false (.bool false) (.tmp 8) (.tmp 9), none⟩]
def c71r1 : List GOp := [
 ⟨(some 11), .load 1 false (.tmp 1), none⟩,
 ⟨(some 12), .mv (.tmp 0), none⟩,
 ⟨none, .mset (.int .i64) false (.tmp 11) (.tmp 12) (.const (.bool true)), none⟩]
def c71r2 : List GOp := [
 ⟨(some 13), .load 1 false (.tmp 2), none⟩,
 ⟨(some 14), .mv (.tmp 0), none⟩,
 ⟨(some 15), .callv (.tmp 13) [(.tmp 14)], none⟩]
def c71r3 : List GOp := [
 ⟨(some 16), .load 1 false (.tmp 3), none⟩,
 ⟨(some 17), .mv (.tmp 0), none⟩,
 ⟨(some 18), .idxA 4 (.tmp 16) (.tmp 17), none⟩,
 ⟨(some 19), .fadd 2 (.tmp 18), none⟩,
 ⟨(some 20), .load 1 false (.tmp 19), none⟩,
 ⟨(some 21), .len false (.tmp 20), none⟩,
 ⟨(some 22), .mv (.const (.int .i64 0)), none⟩]
def c71r4 : List GOp := [
 ⟨(some 23), .bin .lss (.tmp 22) (.tmp 21), none⟩]
def c71r5 : List GOp := [
 ⟨(some 24), .idxA 1 (.tmp 20) (.tmp 22), none⟩,
 ⟨(some 25), .load 1 false (.tmp 24), none⟩,
 ⟨(some 7), .mv (.tmp 25), none⟩]
def c71r6 : List GOp := [
 ⟨(some 26), .load 1 false (.tmp 4), none⟩,
 ⟨(some 27), .mv (.tmp 7), none⟩,
 ⟨(some 28), .callv (.tmp 26) [(.tmp 27)], none⟩]
def c71r7 : List GOp := [
 ⟨(some 29), .bin .add (.tmp 22) (.const (.int .i64 1)), none⟩,
 ⟨(some 22), .mv (.tmp 29), none⟩]
def c71l8 : DE := .seq (.reg c71r4) (.seq (.cond (.tmp 23) (.skip) (.exit 0)) (.join (.block 1 (.seq (.reg c71r5) (.reg c71r6))) (.reg c71r7)))
def c71 : EFn := ⟨30, .seq (.seq (.reg c71r0) (.cond (.tmp 10) (.ret) (.skip))) (.seq (.reg c71r1) (.join (.reg c71r2) (.seq (.reg c71r3) (.block 0 (.loop c71l8))))), []⟩
theorem c71_ok : compF Tryd.prog 71 = some c71.er := by kernel_rfl
set_option maxHeartbeats 8000000 in
theorem walkV_R {P : Program} (hP : P = Tryd.prog) (nodes : (List Node)) (rec : (Int → (List (Int × Bool)) → Int → Option ((List (Int × Bool)) × Int))) (at0 : Int) (seen : (List (Int × Bool))) (nxt : Int) (hrec : ∀ at0 seen nxt r, rec at0 seen nxt = some r → SCall P 71 [.cells [.hd 1] 130, .mp (.int .i64) false (WM (Value.int .i64) eB seen), .cells [.clo (.func 41) [] [.ptr 3 0]] 88, .cells [.d (.val (.int .i64 nxt))] 3, .cells [.d (.sl (W eNode nodes))] 25, .cells [.clo (.func 71) [] [.ptr 0 0, .ptr 2 0, .ptr 4 0, .ptr 5 0]] 88] [.d (.val (.int .i64 at0)), .ptr 0 0, .ptr 2 0, .ptr 4 0, .ptr 5 0] (fun sv own' => sv = .tup [] ∧ own' = [.cells [.hd 1] 130, .mp (.int .i64) false (WM (Value.int .i64) eB r.1), .cells [.clo (.func 41) [] [.ptr 3 0]] 88, .cells [.d (.val (.int .i64 r.2))] 3, .cells [.d (.sl (W eNode nodes))] 25, .cells [.clo (.func 71) [] [.ptr 0 0, .ptr 2 0, .ptr 4 0, .ptr 5 0]] 88])) (r : (List (Int × Bool)) × Int) (h : walkV_b nodes rec at0 seen nxt = some r) : SCall P 71 [.cells [.hd 1] 130, .mp (.int .i64) false (WM (Value.int .i64) eB seen), .cells [.clo (.func 41) [] [.ptr 3 0]] 88, .cells [.d (.val (.int .i64 nxt))] 3, .cells [.d (.sl (W eNode nodes))] 25, .cells [.clo (.func 71) [] [.ptr 0 0, .ptr 2 0, .ptr 4 0, .ptr 5 0]] 88] [.d (.val (.int .i64 at0)), .ptr 0 0, .ptr 2 0, .ptr 4 0, .ptr 5 0] (fun sv own' => sv = .tup [] ∧ own' = [.cells [.hd 1] 130, .mp (.int .i64) false (WM (Value.int .i64) eB r.1), .cells [.clo (.func 41) [] [.ptr 3 0]] 88, .cells [.d (.val (.int .i64 r.2))] 3, .cells [.d (.sl (W eNode nodes))] 25, .cells [.clo (.func 71) [] [.ptr 0 0, .ptr 2 0, .ptr 4 0, .ptr 5 0]] 88]) := by
 refine .walkG 6 rfl (Nat.le_of_ble_eq_true rfl) (hP ▸ c71_ok) fun K hK => ?_;unfold walkV_b at h;cbv;refine .gi (e := eB) h (by first | rfl | exact WM_nil' _ _) (fun h => h) fun y1 h => ?_;cbv;refine brkG h (fun h => ?_) (fun h => ?_)
 ·cbv;obtain rfl := Option.some.inj h;refine hK _ _ [0, 1, 2, 3, 4, 5] ?_;(cbv; repeat (refine ⟨by first | rfl | exact W_nil _ | simp only [W_nilx] | simp only [WM_nilx], ?_⟩; cbv))
 ·cbv;refine .gi (e := eB) h (by first | rfl | exact WM_nil' _ _) (by first | rfl | exact W_nil _ | (cbv; simp only [W_nilx])) fun m2 h => ?_;cbv;refine .g h (fun (c3 : Int) => [.d (.val (.int .i64 at0)), .top, .top, .ptr 4 0, .ptr 5 0] ++ List.replicate 25 .top) (fun c3 => [.cells [.hd 1] 130, .mp (.int .i64) false (WM (Value.int .i64) eB m2), .cells [.clo (.func 41) [] [.ptr 3 0]] 88, .cells [.d (.val (.int .i64 c3))] 3, .cells [.d (.sl (W eNode nodes))] 25, .cells [.clo (.func 71) [] [.ptr 0 0, .ptr 2 0, .ptr 4 0, .ptr 5 0]] 88]) (fun y hm Kn1 hKn1 => ?_) fun t h => ?_
  ·have h := hm;clear hm;cbv;refine .inl (hP ▸ c41_ok) ?_;cbv;refine brkG h (fun h => ?_) (fun h => ?_)
   ·cbv;obtain rfl := Option.some.inj h;refine hKn1 _ _ _ rfl (.nz (.mtE [0, 1, 2, 3, 4, 5] ?_));(cbv; repeat (refine ⟨by first | rfl | exact W_nil _ | simp only [W_nilx] | simp only [WM_nilx], ?_⟩; cbv))
   ·cbv;obtain rfl := Option.some.inj h;refine hKn1 _ _ _ rfl (.nz (.mtE [0, 1, 2, 3, 4, 5] ?_));(cbv; repeat (refine ⟨by first | rfl | exact W_nil _ | simp only [W_nilx] | simp only [WM_nilx], ?_⟩; cbv))
  obtain ⟨c3, rfl⟩ := ez t;cbv;refine .g h (fun _ => rfl) fun x4 h => ?_;cbv;refine .g h (fun ((own5, c6, v7) : (List (Int × Bool)) × Int × Int) => List.replicate 4 .top ++ [.ptr 5 0] ++ List.replicate 15 .top ++ [.d (.sl (W eIi64 x4.Kids)), .d (.val (.int .i64 (io.len (W eIi64 x4.Kids)))), .d (.val (.int .i64 v7))] ++ List.replicate 7 .top) (fun (own5, c6, v7) => [.cells [.hd 1] 130, .mp (.int .i64) false (WM (Value.int .i64) eB own5), .cells [.clo (.func 41) [] [.ptr 3 0]] 88, .cells [.d (.val (.int .i64 c6))] 3, .cells [.d (.sl (W eNode nodes))] 25, .cells [.clo (.func 71) [] [.ptr 0 0, .ptr 2 0, .ptr 4 0, .ptr 5 0]] 88]) (.nz (.mtE [0, 1, 2, 3, 4, 5] ?_)) fun s x h hr1 Kn1 hKn1 => ?_
  ·(cbv; repeat (refine ⟨by first | rfl | exact W_nil _ | simp only [W_nilx] | simp only [WM_nilx], ?_⟩; cbv))
  unfold walkV_l1 at h;obtain ⟨own5, c6, v7⟩ := s;cbv;refine brkG h (fun h => ?_) (fun h => ?_)
  ·cbv;refine .g h (fun ((own8, c9) : (List (Int × Bool)) × Int) => List.replicate 4 .top ++ [.ptr 5 0] ++ List.replicate 15 .top ++ [.d (.sl (W eIi64 x4.Kids)), .d (.val (.int .i64 (io.len (W eIi64 x4.Kids)))), .d (.val (.int .i64 v7))] ++ List.replicate 7 .top) (fun (own8, c9) => [.cells [.hd 1] 130, .mp (.int .i64) false (WM (Value.int .i64) eB own8), .cells [.clo (.func 41) [] [.ptr 3 0]] 88, .cells [.d (.val (.int .i64 c9))] 3, .cells [.d (.sl (W eNode nodes))] 25, .cells [.clo (.func 71) [] [.ptr 0 0, .ptr 2 0, .ptr 4 0, .ptr 5 0]] 88]) (fun y hm Kn2 hKn2 => ?_) fun t h => ?_
   ·have h := hm;clear hm;cbv;refine .g h (fun _ => rfl) fun x10 h => ?_;cbv;obtain ⟨r11, hm, h⟩ := Option.bind_eq_some_iff.1 h;refine .embL [0, 1, 2, 3, 4, 5] (hrec _ _ _ _ hm) (by (cbv; repeat (refine ⟨by first | rfl | exact W_nil _ | simp only [W_nilx] | simp only [WM_nilx], ?_⟩; cbv))) fun sv0 own0 hq _ => ?_;obtain ⟨rfl, rfl⟩ := hq;clear hm;cbv;obtain rfl := Option.some.inj h;refine hKn2 _ _ _ rfl (.nz (.mtE [0, 1, 2, 3, 4, 5] ?_));(cbv; repeat (refine ⟨by first | rfl | exact W_nil _ | simp only [W_nilx] | simp only [WM_nilx], ?_⟩; cbv))
   obtain ⟨own8, c9⟩ := t;cbv;obtain rfl := Option.some.inj h;refine hKn1 _ _ _ rfl (.nz (.mtE [0, 1, 2, 3, 4, 5] ?_));(cbv; repeat (refine ⟨by first | rfl | exact W_nil _ | simp only [W_nilx] | simp only [WM_nilx], ?_⟩; cbv))
  ·cbv;obtain rfl := Option.some.inj h;obtain rfl := hr1 _ rfl;refine hK _ _ [0, 1, 2, 3, 4, 5] ?_;(cbv; repeat (refine ⟨by first | rfl | exact W_nil _ | simp only [W_nilx] | simp only [WM_nilx], ?_⟩; cbv))
theorem walkV_all {P : Program} (hP : P = Tryd.prog) (nodes : (List Node)) : ∀ (n : Nat) (at0 : Int) (seen : (List (Int × Bool))) (nxt : Int) (r : (List (Int × Bool)) × Int), walkV nodes n at0 seen nxt = some r → SCall P 71 [.cells [.hd 1] 130, .mp (.int .i64) false (WM (Value.int .i64) eB seen), .cells [.clo (.func 41) [] [.ptr 3 0]] 88, .cells [.d (.val (.int .i64 nxt))] 3, .cells [.d (.sl (W eNode nodes))] 25, .cells [.clo (.func 71) [] [.ptr 0 0, .ptr 2 0, .ptr 4 0, .ptr 5 0]] 88] [.d (.val (.int .i64 at0)), .ptr 0 0, .ptr 2 0, .ptr 4 0, .ptr 5 0] (fun sv own' => sv = .tup [] ∧ own' = [.cells [.hd 1] 130, .mp (.int .i64) false (WM (Value.int .i64) eB r.1), .cells [.clo (.func 41) [] [.ptr 3 0]] 88, .cells [.d (.val (.int .i64 r.2))] 3, .cells [.d (.sl (W eNode nodes))] 25, .cells [.clo (.func 71) [] [.ptr 0 0, .ptr 2 0, .ptr 4 0, .ptr 5 0]] 88])
 | 0, _, _, _, _, h => by cases h
 | n + 1, at0, seen, nxt, r, h => walkV_R hP nodes _ at0 seen nxt (walkV_all hP nodes n) r h
end Go.SX.Td
namespace Go.SX.Td
open Go Go.SX Go.Proofs
set_option maxRecDepth 100000
def c76r0 : List GOp := [
 ⟨(some 4), .load 1 false (.tmp 2), none⟩,
 ⟨(some 5), .mv (.tmp 0), none⟩,
 ⟨(some 6), .load 1 false (.tmp 1), none⟩,
 ⟨(some 7), .len false (.tmp 6), none⟩,
 ⟨none, .mset (.int .i64) false (.tmp 4) (.tmp 5) (.tmp 7), none⟩]
def c76r1 : List GOp := [
 ⟨(some 8), .load 1 false (.tmp 1), none⟩,
 ⟨(some 9), .mv (.tmp 0), none⟩,
 ⟨(some 10), .bslice 3 1 1 (.int .i64 0) [(0, (.tmp 9))], none⟩,
 ⟨(some 11), .app 3 1 8 (.int .i64 0) (.tmp 8) (.tmp 10), none⟩,
 ⟨none, .store 1 (.tmp 1) (.tmp 11), none⟩]
def c76 : EFn := ⟨12, .seq (.reg c76r0) (.reg c76r1), []⟩
theorem c76_ok : compF Tryd.prog 76 = some c76.er := by kernel_rfl
set_option maxHeartbeats 8000000 in
theorem walkT_R {P : Program} (hP : P = Tryd.prog) (nodes : (List Node)) (rec : (Int → (List (Int × Bool)) → (List Int) → (List (Int × Int)) → Option ((List (Int × Bool)) × (List Int) × (List (Int × Int))))) (at0 : Int) (seen : (List (Int × Bool))) (ord : (List Int)) (number : (List (Int × Int))) (hrec : ∀ at0 seen ord number r, rec at0 seen ord number = some r → SCall P 71 [.cells [.hd 1] 130, .mp (.int .i64) false (WM (Value.int .i64) eB seen), .cells [.clo (.func 76) [] [.ptr 3 0, .ptr 5 0]] 88, .cells [.hd 4] 62, .row 3 1 (W eIi64 ord), .cells [.hd 6] 135, .mp (.int .i64) false (WM (Value.int .i64) eIi64 number), .cells [.hd 8] 25, .row 64 4 (W eNode nodes), .cells [.clo (.func 71) [] [.ptr 0 0, .ptr 2 0, .ptr 7 0, .ptr 9 0]] 88] [.d (.val (.int .i64 at0)), .ptr 0 0, .ptr 2 0, .ptr 7 0, .ptr 9 0] (fun sv own' => sv = .tup [] ∧ own' = [.cells [.hd 1] 130, .mp (.int .i64) false (WM (Value.int .i64) eB r.1), .cells [.clo (.func 76) [] [.ptr 3 0, .ptr 5 0]] 88, .cells [.hd 10] 62, .gone, .cells [.hd 6] 135, .mp (.int .i64) false (WM (Value.int .i64) eIi64 r.2.2), .cells [.hd 8] 25, .row 64 4 (W eNode nodes), .cells [.clo (.func 71) [] [.ptr 0 0, .ptr 2 0, .ptr 7 0, .ptr 9 0]] 88, .row 3 1 (W eIi64 r.2.1)])) (r : (List (Int × Bool)) × (List Int) × (List (Int × Int))) (h : walkT_b nodes rec at0 seen ord number = some r) : SCall P 71 [.cells [.hd 1] 130, .mp (.int .i64) false (WM (Value.int .i64) eB seen), .cells [.clo (.func 76) [] [.ptr 3 0, .ptr 5 0]] 88, .cells [.hd 4] 62, .row 3 1 (W eIi64 ord), .cells [.hd 6] 135, .mp (.int .i64) false (WM (Value.int .i64) eIi64 number), .cells [.hd 8] 25, .row 64 4 (W eNode nodes), .cells [.clo (.func 71) [] [.ptr 0 0, .ptr 2 0, .ptr 7 0, .ptr 9 0]] 88] [.d (.val (.int .i64 at0)), .ptr 0 0, .ptr 2 0, .ptr 7 0, .ptr 9 0] (fun sv own' => sv = .tup [] ∧ own' = [.cells [.hd 1] 130, .mp (.int .i64) false (WM (Value.int .i64) eB r.1), .cells [.clo (.func 76) [] [.ptr 3 0, .ptr 5 0]] 88, .cells [.hd 10] 62, .gone, .cells [.hd 6] 135, .mp (.int .i64) false (WM (Value.int .i64) eIi64 r.2.2), .cells [.hd 8] 25, .row 64 4 (W eNode nodes), .cells [.clo (.func 71) [] [.ptr 0 0, .ptr 2 0, .ptr 7 0, .ptr 9 0]] 88, .row 3 1 (W eIi64 r.2.1)]) := by
 refine .walkG 10 rfl (Nat.le_of_ble_eq_true rfl) (hP ▸ c71_ok) fun K hK => ?_;unfold walkT_b at h;cbv;refine .gi (e := eB) h (by first | rfl | exact WM_nil' _ _) (fun h => h) fun y1 h => ?_;cbv;refine brkG h (fun h => ?_) (fun h => ?_)
 ·cbv;obtain rfl := Option.some.inj h;refine hK _ _ [0, 1, 2, 3, 4, 5, 6, 7, 8, 9, 4] ?_;(cbv; repeat (refine ⟨by first | rfl | exact W_nil _ | simp only [W_nilx] | simp only [WM_nilx], ?_⟩; cbv))
 ·cbv;refine .gi (e := eB) h (by first | rfl | exact WM_nil' _ _) (by first | rfl | exact W_nil _ | (cbv; simp only [W_nilx])) fun m2 h => ?_;cbv;refine .g h (fun ((c3, own4) : (List Int) × (List (Int × Int))) => [.d (.val (.int .i64 at0)), .top, .top, .ptr 7 0, .ptr 9 0] ++ List.replicate 25 .top) (fun (c3, own4) => [.cells [.hd 1] 130, .mp (.int .i64) false (WM (Value.int .i64) eB m2), .cells [.clo (.func 76) [] [.ptr 3 0, .ptr 5 0]] 88, .cells [.hd 10] 62, .gone, .cells [.hd 6] 135, .mp (.int .i64) false (WM (Value.int .i64) eIi64 own4), .cells [.hd 8] 25, .row 64 4 (W eNode nodes), .cells [.clo (.func 71) [] [.ptr 0 0, .ptr 2 0, .ptr 7 0, .ptr 9 0]] 88, .row 3 1 (W eIi64 c3)]) (fun y hm Kn1 hKn1 => ?_) fun t h => ?_
  ·have h := hm;clear hm;cbv;refine .inl (hP ▸ c76_ok) ?_;cbv;refine .gi (e := eIi64) h (by first | rfl | exact WM_nil' _ _) (by first | rfl | exact W_nil _ | (cbv; simp only [W_nilx])) fun m5 h => ?_;cbv;refine .g (e := eIi64) h (W_cons (by first | rfl | exact W_nil _ | (cbv; simp only [W_nilx])) (W_nil' _)) fun l6 h => ?_;cbv;refine .g h rfl (fun _ => rfl) (by decide) fun l7 h => ?_;cbv;obtain rfl := Option.some.inj h;refine hKn1 _ _ _ rfl (.nz (.mtE [0, 1, 2, 3, 4, 5, 6, 7, 8, 9, 11] ?_));(cbv; repeat (refine ⟨by first | rfl | exact W_nil _ | simp only [W_nilx] | simp only [WM_nilx], ?_⟩; cbv))
  obtain ⟨c3, own4⟩ := t;cbv;refine .g h fun ix8 h => ?_;cbv;refine .g h fun v9 h => ?_;cbv;refine .g h (fun ((own10, c11, own12, v13) : (List (Int × Bool)) × (List Int) × (List (Int × Int)) × Int) => List.replicate 4 .top ++ [.ptr 9 0] ++ List.replicate 15 .top ++ [.d (.sl (W eIi64 v9.Kids)), .d (.val (.int .i64 (io.len (W eIi64 v9.Kids)))), .d (.val (.int .i64 v13))] ++ List.replicate 7 .top) (fun (own10, c11, own12, v13) => [.cells [.hd 1] 130, .mp (.int .i64) false (WM (Value.int .i64) eB own10), .cells [.clo (.func 76) [] [.ptr 3 0, .ptr 5 0]] 88, .cells [.hd 10] 62, .gone, .cells [.hd 6] 135, .mp (.int .i64) false (WM (Value.int .i64) eIi64 own12), .cells [.hd 8] 25, .row 64 4 (W eNode nodes), .cells [.clo (.func 71) [] [.ptr 0 0, .ptr 2 0, .ptr 7 0, .ptr 9 0]] 88, .row 3 1 (W eIi64 c11)]) (.nz (.mtE [0, 1, 2, 3, 4, 5, 6, 7, 8, 9, 10] ?_)) fun s x h hr1 Kn1 hKn1 => ?_
  ·(cbv; repeat (refine ⟨by first | rfl | exact W_nil _ | simp only [W_nilx] | simp only [WM_nilx], ?_⟩; cbv))
  unfold walkT_l1 at h;obtain ⟨own10, c11, own12, v13⟩ := s;cbv;refine brkG h (fun h => ?_) (fun h => ?_)
  ·cbv;refine .g h (fun ((own14, c15, own16) : (List (Int × Bool)) × (List Int) × (List (Int × Int))) => List.replicate 4 .top ++ [.ptr 9 0] ++ List.replicate 15 .top ++ [.d (.sl (W eIi64 v9.Kids)), .d (.val (.int .i64 (io.len (W eIi64 v9.Kids)))), .d (.val (.int .i64 v13))] ++ List.replicate 7 .top) (fun (own14, c15, own16) => [.cells [.hd 1] 130, .mp (.int .i64) false (WM (Value.int .i64) eB own14), .cells [.clo (.func 76) [] [.ptr 3 0, .ptr 5 0]] 88, .cells [.hd 10] 62, .gone, .cells [.hd 6] 135, .mp (.int .i64) false (WM (Value.int .i64) eIi64 own16), .cells [.hd 8] 25, .row 64 4 (W eNode nodes), .cells [.clo (.func 71) [] [.ptr 0 0, .ptr 2 0, .ptr 7 0, .ptr 9 0]] 88, .row 3 1 (W eIi64 c15)]) (fun y hm Kn2 hKn2 => ?_) fun t h => ?_
   ·have h := hm;clear hm;cbv;refine .g h (fun _ => rfl) fun x17 h => ?_;cbv;obtain ⟨r18, hm, h⟩ := Option.bind_eq_some_iff.1 h;refine .embL [0, 1, 2, 3, 10, 5, 6, 7, 8, 9] (hrec _ _ _ _ _ hm) (by (cbv; repeat (refine ⟨by first | rfl | exact W_nil _ | simp only [W_nilx] | simp only [WM_nilx], ?_⟩; cbv))) fun sv0 own0 hq _ => ?_;obtain ⟨rfl, rfl⟩ := hq;clear hm;cbv;obtain rfl := Option.some.inj h;refine hKn2 _ _ _ rfl (.nz (.mtE [0, 1, 2, 3, 4, 5, 6, 7, 8, 9, 11] ?_));(cbv; repeat (refine ⟨by first | rfl | exact W_nil _ | simp only [W_nilx] | simp only [WM_nilx], ?_⟩; cbv))
   obtain ⟨own14, c15, own16⟩ := t;cbv;obtain rfl := Option.some.inj h;refine hKn1 _ _ _ rfl (.nz (.mtE [0, 1, 2, 3, 4, 5, 6, 7, 8, 9, 10] ?_));(cbv; repeat (refine ⟨by first | rfl | exact W_nil _ | simp only [W_nilx] | simp only [WM_nilx], ?_⟩; cbv))
  ·cbv;obtain rfl := Option.some.inj h;obtain rfl := hr1 _ rfl;refine hK _ _ [0, 1, 2, 3, 4, 5, 6, 7, 8, 9, 10] ?_;(cbv; repeat (refine ⟨by first | rfl | exact W_nil _ | simp only [W_nilx] | simp only [WM_nilx], ?_⟩; cbv))
theorem walkT_all {P : Program} (hP : P = Tryd.prog) (nodes : (List Node)) : ∀ (n : Nat) (at0 : Int) (seen : (List (Int × Bool))) (ord : (List Int)) (number : (List (Int × Int))) (r : (List (Int × Bool)) × (List Int) × (List (Int × Int))), walkT nodes n at0 seen ord number = some r → SCall P 71 [.cells [.hd 1] 130, .mp (.int .i64) false (WM (Value.int .i64) eB seen), .cells [.clo (.func 76) [] [.ptr 3 0, .ptr 5 0]] 88, .cells [.hd 4] 62, .row 3 1 (W eIi64 ord), .cells [.hd 6] 135, .mp (.int .i64) false (WM (Value.int .i64) eIi64 number), .cells [.hd 8] 25, .row 64 4 (W eNode nodes), .cells [.clo (.func 71) [] [.ptr 0 0, .ptr 2 0, .ptr 7 0, .ptr 9 0]] 88] [.d (.val (.int .i64 at0)), .ptr 0 0, .ptr 2 0, .ptr 7 0, .ptr 9 0] (fun sv own' => sv = .tup [] ∧ own' = [.cells [.hd 1] 130, .mp (.int .i64) false (WM (Value.int .i64) eB r.1), .cells [.clo (.func 76) [] [.ptr 3 0, .ptr 5 0]] 88, .cells [.hd 10] 62, .gone, .cells [.hd 6] 135, .mp (.int .i64) false (WM (Value.int .i64) eIi64 r.2.2), .cells [.hd 8] 25, .row 64 4 (W eNode nodes), .cells [.clo (.func 71) [] [.ptr 0 0, .ptr 2 0, .ptr 7 0, .ptr 9 0]] 88, .row 3 1 (W eIi64 r.2.1)])
 | 0, _, _, _, _, _, h => by cases h
 | n + 1, at0, seen, ord, number, r, h => walkT_R hP nodes _ at0 seen ord number (walkT_all hP nodes n) r h
end Go.SX.Td
