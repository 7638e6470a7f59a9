/- Parts of the proof. -/
import Derived.Shelf.Sort.Plain
import Derived.Shelf.Slices.In.SortNone
import Derived.Test.YtllbabjgpdmblaaProg
import Derived.Test.YtllbabjgpdmblaaZClT
set_option linter.unusedSimpArgs false
set_option linter.unusedVariables false
namespace Go.Proofs
open Go.Shelf
def Try.lays189_ren : Go.Shelf.Ren := ⟨fun | 189 => 66 | 125 => 71 | 257 => 70 | 128 => 81 | 129 => 82 | 294 => 72 | 295 => 73 | 296 => 74 | 297 => 75 | 298 => 76 | 299 => 77 | 216 => 78 | 300 => 79 | 301 => 80 | 328 => 83 | 329 => 84 | 330 => 85 | 331 => 86 | 332 => 87 | 215 => 88 | 343 => 89 | n => n, fun | 28 => 67 | 3 => 3 | 46 => 89 | 0 => 0 | 51 => 115 | 53 => 117 | 4 => 4 | 183 => 107 | 182 => 106 | 131 => 112 | 5 => 5 | 9 => 9 | 218 => 118 | 222 => 122 | 228 => 124 | 229 => 125 | n => n, fun | n => n⟩
theorem Try.lays189 : Go.Proofs.Lays.n189 Try.prog Try.lays189_ren := {
 mixed := by kernel_rfl
 f125 := Try.func71.trans (congrArg some (by kernel_rfl))
 f128 := Try.func81.trans (congrArg some (by kernel_rfl))
 f129 := Try.func82.trans (congrArg some (by kernel_rfl))
 f189 := Try.func66.trans (congrArg some (by kernel_rfl))
 f215 := Try.func88.trans (congrArg some (by kernel_rfl))
 f216 := Try.func78.trans (congrArg some (by kernel_rfl))
 f257 := Try.func70.trans (congrArg some (by kernel_rfl))
 f294 := Try.func72.trans (congrArg some (by kernel_rfl))
 f295 := Try.func73.trans (congrArg some (by kernel_rfl))
 f296 := Try.func74.trans (congrArg some (by kernel_rfl))
 f297 := Try.func75.trans (congrArg some (by kernel_rfl))
 f298 := Try.func76.trans (congrArg some (by kernel_rfl))
 f299 := Try.func77.trans (congrArg some (by kernel_rfl))
 f300 := Try.func79.trans (congrArg some (by kernel_rfl))
 f301 := Try.func80.trans (congrArg some (by kernel_rfl))
 f328 := Try.func83.trans (congrArg some (by kernel_rfl))
 f329 := Try.func84.trans (congrArg some (by kernel_rfl))
 f330 := Try.func85.trans (congrArg some (by kernel_rfl))
 f331 := Try.func86.trans (congrArg some (by kernel_rfl))
 f332 := Try.func87.trans (congrArg some (by kernel_rfl))
 f343 := Try.func89.trans (congrArg some (by kernel_rfl))
 t0 := Try.underlying0
 a0 := Try.isAgg0
 z0 := Try.sizeOf0
 v0 := Try.zeroValue0
 t3 := Try.underlying3
 a3 := Try.isAgg3
 z3 := Try.sizeOf3
 v3 := Try.zeroValue3
 t4 := Try.underlying4
 a4 := Try.isAgg4
 z4 := Try.sizeOf4
 v4 := Try.zeroValue4
 t5 := Try.underlying5
 a5 := Try.isAgg5
 z5 := Try.sizeOf5
 v5 := Try.zeroValue5
 t9 := Try.underlying9
 a9 := Try.isAgg9
 z9 := Try.sizeOf9
 v9 := Try.zeroValue9
 t28 := Try.underlying67
 a28 := Try.isAgg67
 z28 := Try.sizeOf67
 v28 := Try.zeroValue67
 t46 := Try.underlying89
 a46 := Try.isAgg89
 z46 := Try.sizeOf89
 v46 := Try.zeroValue89
 t51 := Try.underlying115
 a51 := Try.isAgg115
 z51 := Try.sizeOf115
 v51 := Try.zeroValue115
 t53 := Try.underlying117
 a53 := Try.isAgg117
 z53 := Try.sizeOf117
 v53 := Try.zeroValue117
 t131 := Try.underlying112
 a131 := Try.isAgg112
 z131 := Try.sizeOf112
 v131 := Try.zeroValue112
 t182 := Try.underlying106
 a182 := Try.isAgg106
 z182 := Try.sizeOf106
 v182 := Try.zeroValue106
 t183 := Try.underlying107
 a183 := Try.isAgg107
 z183 := Try.sizeOf107
 v183 := Try.zeroValue107
 t218 := Try.underlying118
 a218 := Try.isAgg118
 z218 := Try.sizeOf118
 v218 := Try.zeroValue118
 t222 := Try.underlying122
 a222 := Try.isAgg122
 z222 := Try.sizeOf122
 v222 := Try.zeroValue122
 t228 := Try.underlying124
 a228 := Try.isAgg124
 z228 := Try.sizeOf124
 v228 := Try.zeroValue124
 t229 := Try.underlying125
 a229 := Try.isAgg125
 z229 := Try.sizeOf125
 v229 := Try.zeroValue125 }
open Go.Sort Go.RowKit in
theorem Try.slices_Sort_int (blk off cap : Nat) (zs : List Int) (w : World) (hH : Holds (Value.int .i64) w blk off zs.toArray) (hblk : blk < w.heap.size) (hsz : zs.length < 4611686018427387904) :
   Calls Try.prog 66 #[.slice (some ⟨blk, off, none⟩) zs.length cap] w fun e w' =>
     e = .returned (.tuple #[]) ∧ ∃ n os, w' = grow (putRow (Value.int .i64) (Sort.ahead w n) blk off (zs.mergeSort fun x y => decide (x ≤ y)).toArray) os := Any.slices_Sort_int Try.lays189 blk off cap zs w hH hblk hsz
open Go.RowKit Go.Sort in
theorem Try.slices_Sort_int_none (p : Option Addr) (cap : Nat) (w : World) :
   Calls Try.prog 66 #[.slice p 0 cap] w fun e w' => e = .returned (.tuple #[]) ∧ w' = w := Any.slices_Sort_int_none Try.lays189 p cap w
end Go.Proofs
namespace Go.SX.Cl
open Go Go.SX Go.Proofs Go.RowKit Go.Sort
theorem ok66 : okFn Try.prog 66 = true := by kernel_rfl
noncomputable def sortL (l : List Int) : List Int := l.mergeSort fun x y => decide (x ≤ y)
theorem sortL_len (l : List Int) : (sortL l).length = l.length := by simp [sortL]
noncomputable def sortG (l : List Int) : Option (List Int) := if l.length ≤ 1000000000 then some (sortL l) else none
theorem WI_flat (l : List Int) : (W eIi64 l).flatten = l.map fun n => D.val (.int .i64 n) := by
 rw [W_eq]
 induction l with
 | nil => rfl
 | cons a l ih => simp only [List.map_cons, List.flatten_cons, ih]; rfl
theorem WI_len (l : List Int) : ∀ ds ∈ W eIi64 l, ds.length = 1 := by
 rw [W_eq]; intro ds hd
 simp only [List.mem_map] at hd
 obtain ⟨x, _, rfl⟩ := hd; rfl
theorem slices_Sort_R {P : Program} (hP : P = Try.prog) (l r : List Int) (h : sortG l = some r) :
   SCall P 66 [.row 3 1 (W eIi64 l)] [.hd 0] (fun sv own' => sv = .tup [] ∧ own' = [.row 3 1 (W eIi64 r)]) := by
 subst hP
 unfold sortG at h
 split at h
 · rename_i hl
   cases h
   refine ⟨ok66, fun c w us hS hr => ?_⟩
   obtain ⟨u, us', rfl, hu, hn⟩ := RelL.cons_iff.1 hr
   obtain rfl := RelL.nil_iff.1 hn
   cases hu with | hd hr0 hθ =>
   obtain ⟨hd1, xs, ⟨hxl, hv⟩, hc⟩ := hS.res 0 _ rfl
   rw [hθ] at hv
   rcases hv with ⟨rfl, h0⟩ | ⟨g, cap, cur, rfl, _, hb, hle, hm, hcs, htake⟩
   · have hl0 : l = [] := by rw [W_len] at h0; exact List.eq_nil_of_length_eq_zero h0
     subst hl0
     refine (Try.slices_Sort_int_none none 0 w).mono ?_
     rintro e w' ⟨rfl, rfl⟩
     exact ⟨c, _, .tup [], _, rfl, .tup rfl (fun i s u hs => by simp at hs), hS, .refl c, .refl c _ _, rfl, by simp [sortL]⟩
   · have hwl : (W eIi64 l).length = l.length := W_len _ _
     have hcell : ∀ j, j < l.length → cur[j]? = some (.int .i64 (l[j]?.getD 0)) := fun j hj => by
       obtain ⟨u, h1, h2⟩ := hc j (.val (.int .i64 l[j])) (by rw [WI_flat]; simp [hj])
       obtain ⟨rfl, _⟩ := Rep.val_iff.1 h2
       rw [← htake, List.getElem?_take] at h1
       split at h1
       · rw [Array.getElem?_toList] at h1; rw [h1]; simp [hj]
       · cases h1
     have hH : Holds (Value.int .i64) w g 0 l.toArray := fun j hj => by
       have hj' : j < l.length := by simpa using hj
       refine ⟨?_, ?_⟩
       · simp only [World.cell?, hb, Nat.zero_add, hcell j hj']
         simp [hj']
       · simp [World.frozen?, hb]
     have hblk : g < w.heap.size := (Array.getElem?_eq_some_iff.1 hb).1
     have := Try.slices_Sort_int g 0 cap l w hH hblk (by omega)
     rw [← hwl] at this
     refine this.mono ?_
     rintro e w' ⟨rfl, n, os, rfl⟩
     have hput : (putRow (Value.int .i64) (Go.Sort.ahead w n) g 0 (sortL l).toArray).heap[g]? = some (.cells (putCells (Value.int .i64) 0 (sortL l).toArray cur) 3 (0, 0)) := by
       simp only [putRow, mapBlock, Go.Sort.ahead, Array.getElem?_modify, if_true, hb, Option.map_some]; rfl
     have hoth : ∀ k, k ≠ g → (putRow (Value.int .i64) (Go.Sort.ahead w n) g 0 (sortL l).toArray).heap[k]? = w.heap[k]? := fun k hk => by
       simp only [putRow, mapBlock, Go.Sort.ahead, Array.getElem?_modify, if_neg (Ne.symm hk)]
     have hsl : (sortL l).length = l.length := sortL_len l
     obtain ⟨k1, k2⟩ := hS.update (w' := putRow (Value.int .i64) (Go.Sort.ahead w n) g 0 (sortL l).toArray) (x' := .row 3 1 (W eIi64 (sortL l))) (r := 0) rfl rfl rfl (by rw [hθ]; rfl) rfl rfl rfl (by simp [putRow, mapBlock, Go.Sort.ahead]) hoth
       ⟨WI_len _, (sortL l).map (Value.int .i64), by
         rw [hθ]
         refine ⟨by simp [W_len], .inr ⟨g, cap, _, by rw [W_len, W_len, hsl], Nat.zero_le _, hput, by rw [W_len, hsl, ← hwl]; exact hle, hm, by simp [putCells, hcs], ?_⟩⟩
         apply List.ext_getElem?
         intro j
         rw [List.getElem?_take, W_len, hsl, List.getElem?_map]
         have hgs : l.length ≤ cur.size := by rw [hcs]; omega
         split
         · rename_i hj
           have hjl : j < l.length := by omega
           rw [Array.getElem?_toList]
           have hjs : j < (sortL l).length := by omega
           have hjc : j < cur.size := by omega
           simp [putCells, hjl, hjs, hjc, hsl]
         · rename_i hj
           rw [List.getElem?_eq_none (by omega)]; rfl, fun j d hj => by
         rw [WI_flat, List.getElem?_map, Option.map_eq_some_iff] at hj
         obtain ⟨z, hz, rfl⟩ := hj
         exact ⟨.int .i64 z, by rw [List.getElem?_map, hz]; rfl, .val _ rfl⟩⟩
     have hgrow : ∀ b, b < (putRow (Value.int .i64) (Go.Sort.ahead w n) g 0 (sortL l).toArray).heap.size → (grow (putRow (Value.int .i64) (Go.Sort.ahead w n) g 0 (sortL l).toArray) os).heap[b]? = (putRow (Value.int .i64) (Go.Sort.ahead w n) g 0 (sortL l).toArray).heap[b]? := fun b hb' => by
       simp only [grow]; rw [Array.getElem?_append_left hb']
     refine ⟨c, [.row 3 1 (W eIi64 (sortL l))], .tup [], _, rfl, .tup rfl (fun i s u hs => by simp at hs), ?_, .refl c, k2.trans ⟨rfl, rfl, rfl, by simp [grow], fun b hb' _ => hgrow b hb', fun _ hb => .inl hb, fun _ hb => .inl hb, fun _ _ hb => hb⟩, rfl, rfl⟩
     exact k1.on (.refl c) rfl k1.one hgrow (fun b x hb' => (hgrow b (k1.F_lt hb')).trans (k1.le b x hb')) (fun b hb => .inl hb)
 · cases h
end Go.SX.Cl
namespace Go.SX.Cl
open Go Go.SX Go.Proofs
set_option maxRecDepth 100000
def d67r0 : List GOp := [
 ⟨(some 2), .mv (.const (.slice none 0 0)), none⟩]
def d67r1 : List GOp := [
 ⟨(some 6), .mv (.tmp 0), none⟩,
 ⟨(some 7), .len false (.tmp 6), none⟩,
 ⟨(some 8), .bin .lss (.tmp 7) (.const (.int .i64 2)), none⟩]
def d67r2 : List GOp := [
 ⟨(some 9), .mv (.tmp 0), none⟩,
 ⟨(some 2), .mv (.tmp 9), none⟩]
def d67r3 : List GOp := [
 ⟨(some 3), .mv (.const (.int .i64 1)), none⟩]
def d67r4 : List GOp := [
 ⟨(some 10), .mv (.tmp 3), none⟩,
 ⟨(some 11), .mv (.tmp 0), none⟩,
 ⟨(some 12), .len false (.tmp 11), none⟩,
 ⟨(some 13), .bin .lss (.tmp 10) (.tmp 12), none⟩]
def d67r5 : List GOp := [
 ⟨(some 16), .mv (.tmp 0), none⟩,
 ⟨(some 17), .mv (.tmp 3), none⟩,
 ⟨(some 18), .idxA 1 (.tmp 16) (.tmp 17), none⟩,
 ⟨(some 19), .load 1 false (.tmp 18), none⟩,
 ⟨(some 20), .mv (.tmp 0), none⟩,
 ⟨(some 21), .mv (.tmp 3), none⟩,
 ⟨(some 22), .bin .sub (.tmp 21) (.const (.int .i64 1)), none⟩,
 ⟨(some 23), .idxA 1 (.tmp 20) (.tmp 22), none⟩,
 ⟨(some 24), .load 1 false (.tmp 23), none⟩,
 ⟨(some 25), .bin .eql (.tmp 19) (.tmp 24), none⟩]
def d67r6 : List GOp := [
 ⟨(some 26), .mv (.tmp 0), none⟩,
 ⟨(some 27), .mv (.tmp 3), none⟩,
 ⟨(some 28), .slc 1 (.tmp 26) (some (.tmp 27)) none, none⟩,
 ⟨(some 4), .mv (.tmp 28), none⟩]
def d67r7 : List GOp := [
 ⟨(some 5), .mv (.const (.int .i64 1)), none⟩]
def d67r8 : List GOp := [
 ⟨(some 29), .mv (.tmp 5), none⟩,
 ⟨(some 30), .mv (.tmp 4), none⟩,
 ⟨(some 31), .len false (.tmp 30), none⟩,
 ⟨(some 32), .bin .lss (.tmp 29) (.tmp 31), none⟩]
def d67r9 : List GOp := [
 ⟨(some 35), .mv (.tmp 4), none⟩,
 ⟨(some 36), .mv (.tmp 5), none⟩,
 ⟨(some 37), .idxA 1 (.tmp 35) (.tmp 36), none⟩,
 ⟨(some 38), .load 1 false (.tmp 37), none⟩,
 ⟨(some 39), .mv (.tmp 4), none⟩,
 ⟨(some 40), .mv (.tmp 5), none⟩,
 ⟨(some 41), .bin .sub (.tmp 40) (.const (.int .i64 1)), none⟩,
 ⟨(some 42), .idxA 1 (.tmp 39) (.tmp 41), none⟩,
 ⟨(some 43), .load 1 false (.tmp 42), none⟩,
 ⟨(some 44), .bin .neq (.tmp 38) (.tmp 43), none⟩]
def d67r10 : List GOp := [
 ⟨(some 45), .mv (.tmp 0), none⟩,
 ⟨(some 46), .mv (.tmp 3), none⟩,
 ⟨(some 47), .mv (.tmp 4), none⟩,
 ⟨(some 48), .mv (.tmp 5), none⟩,
 ⟨(some 49), .idxA 1 (.tmp 47) (.tmp 48), none⟩,
 ⟨(some 50), .load 1 false (.tmp 49), none⟩,
 ⟨(some 51), .idxA 1 (.tmp 45) (.tmp 46), none⟩,
 ⟨none, .store 1 (.tmp 51) (.tmp 50), none⟩]
def d67r11 : List GOp := [
 ⟨(some 52), .mv (.tmp 3), none⟩,
 ⟨(some 53), .bin .add (.tmp 52) (.const (.int .i64 1)), none⟩,
 ⟨(some 3), .mv (.tmp 53), none⟩]
def d67r12 : List GOp := [
 ⟨(some 33), .mv (.tmp 5), none⟩,
 ⟨(some 34), .bin .add (.tmp 33) (.const (.int .i64 1)), none⟩,
 ⟨(some 5), .mv (.tmp 34), none⟩]
def d67l13 : DC := .seq (.seq (.reg d67r8) (.cond (.tmp 32) (.skip) (.exit 2))) (.seq (.block 3 (.seq (.par true true true 9 d67r9) (.cond (.tmp 44) (.seq (.reg d67r10) (.reg d67r11)) (.skip)))) (.reg d67r12))
def d67r14 : List GOp := [
 ⟨(some 54), .mv (.tmp 0), none⟩,
 ⟨(some 55), .mv (.tmp 3), none⟩,
 ⟨(some 56), .slc 1 (.tmp 54) (some (.tmp 55)) none, none⟩,
 ⟨none, .clr 1 (.int .i64 0) (.tmp 56), none⟩]
def d67r15 : List GOp := [
 ⟨(some 57), .mv (.tmp 0), none⟩,
 ⟨(some 58), .mv (.tmp 3), none⟩,
 ⟨(some 59), .slc 1 (.tmp 57) none (some (.tmp 58)), none⟩,
 ⟨(some 2), .mv (.tmp 59), none⟩]
def d67r16 : List GOp := [
 ⟨(some 14), .mv (.tmp 3), none⟩,
 ⟨(some 15), .bin .add (.tmp 14) (.const (.int .i64 1)), none⟩,
 ⟨(some 3), .mv (.tmp 15), none⟩]
def d67l17 : DC := .seq (.seq (.reg d67r4) (.cond (.tmp 13) (.skip) (.exit 0))) (.seq (.block 1 (.seq (.par true true true 9 d67r5) (.cond (.tmp 25) (.seq (.reg d67r6) (.seq (.seq (.reg d67r7) (.block 2 (.loop d67l13))) (.seq (.reg d67r14) (.seq (.reg d67r15) (.ret))))) (.skip)))) (.reg d67r16))
def d67r18 : List GOp := [
 ⟨(some 60), .mv (.tmp 0), none⟩,
 ⟨(some 2), .mv (.tmp 60), none⟩]
def d67c : DC := .seq (.reg d67r0) (.seq (.seq (.reg d67r1) (.cond (.tmp 8) (.seq (.reg d67r2) (.ret)) (.skip))) (.seq (.seq (.reg d67r3) (.block 0 (.loop d67l17))) (.seq (.reg d67r18) (.ret))))
def d67 : DFn := ⟨61, d67c, [.tmp 2]⟩
theorem d67_ok : compF Try.prog 67 = some d67 := by kernel_rfl
theorem take_succ_eq {α : Type} {a : List α} {k : Nat} {x : α} (h : a[k]? = some x) : a.take (k + 1) = a.take k ++ [x] := by
 rw [List.take_add_one, h]; rfl
theorem toNat_succ {k : Int} (h : 0 ≤ k) : (k + 1).toNat = k.toNat + 1 := by omega
def cmpTo (l : List Int) : Nat → List Int
 | 0 => []
 | k + 1 => match l[k]? with
   | none => cmpTo l k
   | some x => if k ≠ 0 ∧ l[k - 1]? = some x then cmpTo l k else cmpTo l k ++ [x]
def compL (l : List Int) : List Int := cmpTo l l.length
theorem cmpTo_succ {l : List Int} {k : Nat} {x : Int} (h : l[k]? = some x) : cmpTo l (k + 1) = if k ≠ 0 ∧ l[k - 1]? = some x then cmpTo l k else cmpTo l k ++ [x] := by
 rw [cmpTo, h]
theorem cmpTo_le (l : List Int) (k : Nat) : (cmpTo l k).length ≤ k := by
 induction k with
 | zero => simp [cmpTo]
 | succ k ih =>
   rw [cmpTo]
   split
   · omega
   · split
     · omega
     · simp; omega
theorem cmpTo_same {l : List Int} {k : Nat} {x y : Int} (h0 : k ≠ 0) (h : l[k]? = some x) (h' : l[k - 1]? = some y) (he : x = y) : cmpTo l (k + 1) = cmpTo l k := by
 rw [cmpTo_succ h, if_pos ⟨h0, by rw [h', he]⟩]
theorem cmpTo_new {l : List Int} {k : Nat} {x y : Int} (h : l[k]? = some x) (h' : l[k - 1]? = some y) (he : x ≠ y) : cmpTo l (k + 1) = cmpTo l k ++ [x] := by
 rw [cmpTo_succ h, if_neg]
 rintro ⟨_, h2⟩
 rw [h'] at h2; cases h2; exact he rfl
variable {P : Program} (hP : P = Try.prog)
include hP
theorem compactR0 {l : List Int} {es : List (List D)} (hes : es = l.map dI) (hl : l.length ≤ 1000000000) :
   SCall P 67 [.row 3 1 es] [.hd 0] (fun sv own' => sv = .d (.sl ((compL l).map dI)) ∧ own' = [.gone]) := by
 refine .walkC (hP ▸ d67_ok) rfl fun K hK => ?_
 have la : es.length = l.length := by simp [hes]
 cbv
 refine brk (fun h => ?_) (fun h => ?_)
 · simp only [x_lt, x_len, la, decide_eq_true_eq] at h
   cbv
   refine hK _ _ (slE ?_)
   have : compL l = l := by
     match l, h with
     | [], _ => rfl
     | [x], _ => rfl
     | x :: y :: r, h => simp at h; omega
   rw [this, hes]
 simp only [x_lt, x_len, la, decide_eq_false_iff_not] at h
 cbv
 refine .intro (ι := Int) (fun k => [.hd 0, .top, .top, .i k] ++ List.replicate 57 .top) (fun _ => [.row 3 1 es]) (fun env _ => iAt env 3)
   (fun k => 1 ≤ k ∧ k ≤ l.length ∧ cmpTo l k.toNat = l.take k.toNat) (fun k => l.length - k.toNat) 1 ?_ (.mtn [0] ?_) fun k hk Kn hKn => ?_
 · refine ⟨Int.le_refl _, by (first | omega | ((try simp only [nc] at *); (try simp only [Int.ofNat_eq_natCast] at *); omega)), ?_⟩
   have hn0 : 0 < l.length := by (first | omega | ((try simp only [nc] at *); (try simp only [Int.ofNat_eq_natCast] at *); omega))
   have hx : l[0]? = some l[0] := List.getElem?_eq_getElem hn0
   show cmpTo l 1 = l.take 1
   rw [cmpTo_succ hx, if_neg (by simp), take_succ_eq hx]; rfl
 · (cbv; repeat (refine ⟨rfl, ?_⟩; cbv))
 obtain ⟨hk1, hk2, hk3⟩ := hk
 cbv
 refine brk (fun h1 => ?_) (fun h1 => ?_)
 · simp only [x_lt, x_len, la, decide_eq_true_eq] at h1
   cbv
   refine ⟨by (first | omega | ((try simp only [nc] at *); (try simp only [Int.ofNat_eq_natCast] at *); omega)), by rw [la]; exact h1, ?_⟩
   cbv
   refine .map hes (by simp only [x_nat]; (first | omega | ((try simp only [nc] at *); (try simp only [Int.ofNat_eq_natCast] at *); omega))) fun x hx => ?_
   simp only [x_nat] at hx
   have ew : IntKind.i64.wrap (k - 1) = k - 1 := wr64 (by (first | omega | ((try simp only [nc] at *); (try simp only [Int.ofNat_eq_natCast] at *); omega))) (by (first | omega | ((try simp only [nc] at *); (try simp only [Int.ofNat_eq_natCast] at *); omega)))
   cbv
   refine ⟨by simp only [x_subi]; rw [ew]; (first | omega | ((try simp only [nc] at *); (try simp only [Int.ofNat_eq_natCast] at *); omega)), by simp only [x_subi]; rw [ew, la]; (first | omega | ((try simp only [nc] at *); (try simp only [Int.ofNat_eq_natCast] at *); omega)), ?_⟩
   cbv
   refine .map hes (by simp only [x_nat, x_subi]; rw [ew]; (first | omega | ((try simp only [nc] at *); (try simp only [Int.ofNat_eq_natCast] at *); omega))) fun y hy => ?_
   simp only [x_nat, x_subi] at hy
   rw [ew] at hy
   have hy : l[k.toNat - 1]? = some y := by rw [← hy]; congr 1; (first | omega | ((try simp only [nc] at *); (try simp only [Int.ofNat_eq_natCast] at *); omega))
   cbv
   refine brk (fun h2 => ?_) (fun h2 => ?_)
   · simp only [x_eq, decide_eq_true_eq] at h2
     cbv
     refine .own ?_
     cbv
     refine ⟨by (first | omega | ((try simp only [nc] at *); (try simp only [Int.ofNat_eq_natCast] at *); omega)), by rw [la]; (first | omega | ((try simp only [nc] at *); (try simp only [Int.ofNat_eq_natCast] at *); omega)), ?_⟩
     cbv
     refine .intro (ι := Int × Int × List (List D)) (fun q => [.hd 0, .top, .top, .i q.1, .rs 0 1 ((Classical.choice ioEx).1.nat k), .i q.2.1] ++ List.replicate 55 .top) (fun q => [.row 3 1 q.2.2]) (fun env own => (iAt env 3, iAt env 5, rAt own 0))
       (fun q => ∃ ml : List Int, q.2.2 = ml.map dI ∧ ml.length = l.length ∧ 0 ≤ q.1 ∧ q.1 + 1 ≤ k + q.2.1 ∧ 1 ≤ q.2.1 ∧ k + q.2.1 ≤ l.length ∧ ml.take q.1.toNat = cmpTo l (k + q.2.1).toNat ∧ ml.drop (k + q.2.1 - 1).toNat = l.drop (k + q.2.1 - 1).toNat)
       (fun q => l.length - q.2.1.toNat) (k, 1, es) ?_ (.mtn [0] ?_) fun q hq Kn2 hKn2 => ?_
     · refine ⟨l, hes, rfl, by (first | omega | ((try simp only [nc] at *); (try simp only [Int.ofNat_eq_natCast] at *); omega)), by (first | omega | ((try simp only [nc] at *); (try simp only [Int.ofNat_eq_natCast] at *); omega)), by (first | omega | ((try simp only [nc] at *); (try simp only [Int.ofNat_eq_natCast] at *); omega)), by (first | omega | ((try simp only [nc] at *); (try simp only [Int.ofNat_eq_natCast] at *); omega)), ?_, rfl⟩
       have e1 : (k + 1).toNat = k.toNat + 1 := by (first | omega | ((try simp only [nc] at *); (try simp only [Int.ofNat_eq_natCast] at *); omega))
       rw [e1, cmpTo_same (by (first | omega | ((try simp only [nc] at *); (try simp only [Int.ofNat_eq_natCast] at *); omega))) hx hy h2, hk3]
     · (cbv; repeat (refine ⟨rfl, ?_⟩; cbv))
     obtain ⟨p, q, es'⟩ := q
     obtain ⟨ml, hml, hmlen, hp0, hpq, hq1, hql, hmt, hmd⟩ := hq
     dsimp only at hml hp0 hpq hq1 hql hmt hmd
     have la' : es'.length = l.length := by rw [hml, List.length_map, hmlen]
     have hget : ∀ j : Nat, k + q - 1 ≤ j → ml[j]? = l[j]? := fun j hj => by
       have : (ml.drop (k + q - 1).toNat)[j - (k + q - 1).toNat]? = (l.drop (k + q - 1).toNat)[j - (k + q - 1).toNat]? := by rw [hmd]
       rw [List.getElem?_drop, List.getElem?_drop] at this
       rw [show (k + q - 1).toNat + (j - (k + q - 1).toNat) = j by omega] at this
       exact this
     cbv
     refine brk (fun h3 => ?_) (fun h3 => ?_)
     · simp only [x_lt, x_lenR, x_nat, la', decide_eq_true_eq] at h3
       have h4 : k + q < l.length := by (first | omega | ((try simp only [nc] at *); (try simp only [Int.ofNat_eq_natCast] at *); omega))
       cbv
       refine ⟨by (first | omega | ((try simp only [nc] at *); (try simp only [Int.ofNat_eq_natCast] at *); omega)), by simp only [la', x_nat]; (first | omega | ((try simp only [nc] at *); (try simp only [Int.ofNat_eq_natCast] at *); omega)), ?_⟩
       cbv
       refine .map hml (by simp only [x_natp, x_nat]; (first | omega | ((try simp only [nc] at *); (try simp only [Int.ofNat_eq_natCast] at *); omega))) fun u hu => ?_
       simp only [x_natp, x_nat] at hu
       have hu2 : l[(k + q).toNat]? = some u := by rw [← hu, ← hget _ (by (first | omega | ((try simp only [nc] at *); (try simp only [Int.ofNat_eq_natCast] at *); omega)))]; congr 1; (first | omega | ((try simp only [nc] at *); (try simp only [Int.ofNat_eq_natCast] at *); omega))
       have ew : IntKind.i64.wrap (q - 1) = q - 1 := wr64 (by (first | omega | ((try simp only [nc] at *); (try simp only [Int.ofNat_eq_natCast] at *); omega))) (by (first | omega | ((try simp only [nc] at *); (try simp only [Int.ofNat_eq_natCast] at *); omega)))
       cbv
       refine ⟨by simp only [x_subi]; rw [ew]; (first | omega | ((try simp only [nc] at *); (try simp only [Int.ofNat_eq_natCast] at *); omega)), by simp only [x_subi]; simp only [ew, la', x_nat]; (first | omega | ((try simp only [nc] at *); (try simp only [Int.ofNat_eq_natCast] at *); omega)), ?_⟩
       cbv
       refine .map hml (by simp only [x_natp, x_nat, x_subi]; rw [ew]; (first | omega | ((try simp only [nc] at *); (try simp only [Int.ofNat_eq_natCast] at *); omega))) fun v hv => ?_
       simp only [x_natp, x_nat, x_subi] at hv
       rw [ew] at hv
       have hv2 : l[(k + q).toNat - 1]? = some v := by rw [← hv, ← hget _ (by (first | omega | ((try simp only [nc] at *); (try simp only [Int.ofNat_eq_natCast] at *); omega)))]; congr 1; (first | omega | ((try simp only [nc] at *); (try simp only [Int.ofNat_eq_natCast] at *); omega))
       cbv
       refine brk (fun h5 => ?_) (fun h5 => ?_)
       · simp only [x_eq, x_not, Bool.not_eq_true', decide_eq_false_iff_not] at h5
         cbv
         refine ⟨by (first | omega | ((try simp only [nc] at *); (try simp only [Int.ofNat_eq_natCast] at *); omega)), by simp only [la', x_nat]; (first | omega | ((try simp only [nc] at *); (try simp only [Int.ofNat_eq_natCast] at *); omega)), ?_⟩
         cbv
         refine .map hml (by simp only [x_natp, x_nat]; (first | omega | ((try simp only [nc] at *); (try simp only [Int.ofNat_eq_natCast] at *); omega))) fun u' hu' => ?_
         simp only [x_natp, x_nat] at hu'
         rw [hu] at hu'; cases hu'
         cbv
         refine ⟨by (first | omega | ((try simp only [nc] at *); (try simp only [Int.ofNat_eq_natCast] at *); omega)), by rw [la']; (first | omega | ((try simp only [nc] at *); (try simp only [Int.ofNat_eq_natCast] at *); omega)), ?_⟩
         cbv
         refine .map hml (by simp only [x_nat]; (first | omega | ((try simp only [nc] at *); (try simp only [Int.ofNat_eq_natCast] at *); omega))) fun z hz => ?_
         cbv
         refine hKn2 _ _ (.mtn [0] ?_) ?_ ?_
         · (cbv; repeat (refine ⟨rfl, ?_⟩; cbv))
         · simp only [iAt, geti, rAt, getr, x_add, x_set, x_nat]
           rw [wr64 (by (first | omega | ((try simp only [nc] at *); (try simp only [Int.ofNat_eq_natCast] at *); omega))) (by (first | omega | ((try simp only [nc] at *); (try simp only [Int.ofNat_eq_natCast] at *); omega))), wr64 (by (first | omega | ((try simp only [nc] at *); (try simp only [Int.ofNat_eq_natCast] at *); omega))) (by (first | omega | ((try simp only [nc] at *); (try simp only [Int.ofNat_eq_natCast] at *); omega)))]
           refine ⟨ml.set p.toNat u, ?_, by rw [List.length_set]; exact hmlen, by (first | omega | ((try simp only [nc] at *); (try simp only [Int.ofNat_eq_natCast] at *); omega)), by (first | omega | ((try simp only [nc] at *); (try simp only [Int.ofNat_eq_natCast] at *); omega)), by (first | omega | ((try simp only [nc] at *); (try simp only [Int.ofNat_eq_natCast] at *); omega)), by (first | omega | ((try simp only [nc] at *); (try simp only [Int.ofNat_eq_natCast] at *); omega)), ?_, ?_⟩
           · rw [hml, List.map_set]; rfl
           · have hlt : p.toNat < ml.length := by (first | omega | ((try simp only [nc] at *); (try simp only [Int.ofNat_eq_natCast] at *); omega))
             have hg : (ml.set p.toNat u)[p.toNat]? = some u := by simp [hlt]
             rw [show (k + (q + 1)).toNat = (k + q).toNat + 1 by (first | omega | ((try simp only [nc] at *); (try simp only [Int.ofNat_eq_natCast] at *); omega)), show (p + 1).toNat = p.toNat + 1 by (first | omega | ((try simp only [nc] at *); (try simp only [Int.ofNat_eq_natCast] at *); omega)), cmpTo_new hu2 hv2 h5, take_succ_eq hg, List.take_set_of_le (Nat.le_refl _), hmt]
           · rw [List.drop_set_of_lt (by (first | omega | ((try simp only [nc] at *); (try simp only [Int.ofNat_eq_natCast] at *); omega))), show (k + (q + 1) - 1).toNat = (k + q - 1).toNat + 1 by (first | omega | ((try simp only [nc] at *); (try simp only [Int.ofNat_eq_natCast] at *); omega)), ← List.drop_drop, hmd, List.drop_drop]
         · simp only [iAt, geti, x_add]
           rw [wr64 (by (first | omega | ((try simp only [nc] at *); (try simp only [Int.ofNat_eq_natCast] at *); omega))) (by (first | omega | ((try simp only [nc] at *); (try simp only [Int.ofNat_eq_natCast] at *); omega)))]
           (first | omega | ((try simp only [nc] at *); (try simp only [Int.ofNat_eq_natCast] at *); omega))
       · simp only [x_eq, x_not, Bool.not_eq_false', decide_eq_true_eq] at h5
         cbv
         refine hKn2 _ _ (.mtn [0] ?_) ?_ ?_
         · (cbv; repeat (refine ⟨rfl, ?_⟩; cbv))
         · simp only [iAt, geti, rAt, getr, x_add]
           rw [wr64 (by (first | omega | ((try simp only [nc] at *); (try simp only [Int.ofNat_eq_natCast] at *); omega))) (by (first | omega | ((try simp only [nc] at *); (try simp only [Int.ofNat_eq_natCast] at *); omega)))]
           refine ⟨ml, hml, hmlen, by (first | omega | ((try simp only [nc] at *); (try simp only [Int.ofNat_eq_natCast] at *); omega)), by (first | omega | ((try simp only [nc] at *); (try simp only [Int.ofNat_eq_natCast] at *); omega)), by (first | omega | ((try simp only [nc] at *); (try simp only [Int.ofNat_eq_natCast] at *); omega)), by (first | omega | ((try simp only [nc] at *); (try simp only [Int.ofNat_eq_natCast] at *); omega)), ?_, ?_⟩
           · rw [show (k + (q + 1)).toNat = (k + q).toNat + 1 by (first | omega | ((try simp only [nc] at *); (try simp only [Int.ofNat_eq_natCast] at *); omega)), cmpTo_same (by (first | omega | ((try simp only [nc] at *); (try simp only [Int.ofNat_eq_natCast] at *); omega))) hu2 hv2 h5, hmt]
           · rw [show (k + (q + 1) - 1).toNat = (k + q - 1).toNat + 1 by (first | omega | ((try simp only [nc] at *); (try simp only [Int.ofNat_eq_natCast] at *); omega)), ← List.drop_drop, hmd, List.drop_drop]
         · simp only [iAt, geti, x_add]
           rw [wr64 (by (first | omega | ((try simp only [nc] at *); (try simp only [Int.ofNat_eq_natCast] at *); omega))) (by (first | omega | ((try simp only [nc] at *); (try simp only [Int.ofNat_eq_natCast] at *); omega)))]
           (first | omega | ((try simp only [nc] at *); (try simp only [Int.ofNat_eq_natCast] at *); omega))
     · simp only [x_lt, x_lenR, x_nat, la', decide_eq_false_iff_not] at h3
       have hpl : p.toNat ≤ es'.length := by (first | omega | ((try simp only [nc] at *); (try simp only [Int.ofNat_eq_natCast] at *); omega))
       cbv
       refine .own ?_
       cbv
       refine ⟨hp0, by rw [la']; (first | omega | ((try simp only [nc] at *); (try simp only [Int.ofNat_eq_natCast] at *); omega)), ?_⟩
       cbv
       refine ⟨by simp only [x_nat]; exact hpl, ?_⟩
       cbv
       refine .own ?_
       cbv
       refine ⟨hp0, ?_, ?_⟩
       · simp only [x_clr, x_nat, List.length_append, List.length_take, List.length_replicate]
         (first | omega | ((try simp only [nc] at *); (try simp only [Int.ofNat_eq_natCast] at *); omega))
       cbv
       refine hK _ _ (slE ?_)
       simp only [x_take, x_clr, x_nat]
       rw [List.take_append_of_le_length (by rw [List.length_take]; omega), List.take_take, Nat.min_self, hml, ← List.map_take, hmt, compL]
       congr 2
       (first | omega | ((try simp only [nc] at *); (try simp only [Int.ofNat_eq_natCast] at *); omega))
   · simp only [x_eq, decide_eq_false_iff_not] at h2
     cbv
     refine hKn _ _ (.mtn [0] ?_) ?_ ?_
     · (cbv; repeat (refine ⟨rfl, ?_⟩; cbv))
     · simp only [iAt, geti, x_add]
       rw [wr64 (by (first | omega | ((try simp only [nc] at *); (try simp only [Int.ofNat_eq_natCast] at *); omega))) (by (first | omega | ((try simp only [nc] at *); (try simp only [Int.ofNat_eq_natCast] at *); omega))), toNat_succ (by (first | omega | ((try simp only [nc] at *); (try simp only [Int.ofNat_eq_natCast] at *); omega)))]
       refine ⟨by (first | omega | ((try simp only [nc] at *); (try simp only [Int.ofNat_eq_natCast] at *); omega)), by (first | omega | ((try simp only [nc] at *); (try simp only [Int.ofNat_eq_natCast] at *); omega)), ?_⟩
       rw [cmpTo_new hx hy h2, hk3, take_succ_eq hx]
     · simp only [iAt, geti, x_add]
       rw [wr64 (by (first | omega | ((try simp only [nc] at *); (try simp only [Int.ofNat_eq_natCast] at *); omega))) (by (first | omega | ((try simp only [nc] at *); (try simp only [Int.ofNat_eq_natCast] at *); omega)))]
       (first | omega | ((try simp only [nc] at *); (try simp only [Int.ofNat_eq_natCast] at *); omega))
 · simp only [x_lt, x_len, la, decide_eq_false_iff_not] at h1
   cbv
   refine hK _ _ (slE ?_)
   have e1 : k.toNat = l.length := by (first | omega | ((try simp only [nc] at *); (try simp only [Int.ofNat_eq_natCast] at *); omega))
   rw [hes, compL, ← e1, hk3, e1, List.take_length]
omit hP in
theorem W_dI (l : List Int) : W eIi64 l = l.map dI := by rw [W_eq]; rfl
noncomputable def compG (l : List Int) : Option (List Int) := if l.length ≤ 1000000000 then some (compL l) else none
theorem slices_Compact_R (l r : List Int) (h : compG l = some r) :
   SCall P 67 [.row 3 1 (W eIi64 l)] [.hd 0] (fun sv own' => sv = .d (.sl (W eIi64 r)) ∧ own' = [.gone]) := by
 unfold compG at h
 split at h
 · rename_i hl
   cases h
   rw [W_dI, W_dI]
   exact compactR0 hP rfl hl
 · cases h
end Go.SX.Cl
