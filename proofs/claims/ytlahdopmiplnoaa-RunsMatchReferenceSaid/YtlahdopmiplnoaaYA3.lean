/-
  Runs: the reference's Free, stepped through by hand.
-/
import Derived.Test.YtlahdopmiplnoaaYA2
import Derived.BigQuiet
set_option linter.unusedSimpArgs false
set_option linter.unusedVariables false
set_option linter.unusedSectionVars false
namespace Go.SX.Runs
open Go Go.SX Go.Proofs Go.RowKit
theorem info3 : (Try.prog.info? 3).map (fun i => (i.zero, i.size, i.bytes)) = some (some (.int .i64 0), 1, 8) := by kernel_rfl
theorem info24 : (Try.prog.info? 24).map (fun i => (i.zero, i.size, i.bytes)) = some (some (.slice none 0 0), 1, 24) := by kernel_rfl
theorem below_to {w wr w' : World} (h : Below w.heap.size w wr) (h' : Below wr.heap.size wr w') : Below w.heap.size w w' :=
  h.trans ⟨h'.os, h'.tape, h'.output, h'.size, fun b hb => h'.block b (Nat.lt_of_lt_of_le hb h.size)⟩

theorem Outs.nil (B : Nat) (w : World) : Outs B w (.slice none 0 0) [] := ⟨[], World.ownsRow_nil _ _ _ _, fun j h g hj => by simp at hj, fun j j' h h' hj => by simp at hj⟩
theorem bl_drew {B : Nat} {w w' : World} (h : Below B w w') : Below B w w'.drew := ⟨h.os, h.tape, h.output, h.size, h.block⟩
theorem bl_drewN {B : Nat} {w w' : World} (h : Below B w w') (k : Nat) : Below B w (w'.drewN k) := ⟨h.os, h.tape, h.output, h.size, h.block⟩
theorem lit_news {w : World} {b : Nat} {u : Value} (h : w.cell? ⟨b, 0, none⟩ = some u) : ∀ j x, [u][j]? = some x → w.cell? ((⟨b, 0, none⟩ : Addr).add j) = some x
  | 0, x, hx => by cases hx; exact h
  | j + 1, x, hx => by simp at hx
theorem lit_one {u : Value} (h : u.oneCell' = true) : ∀ x ∈ [u], x.oneCell' = true := fun x hx => by rw [List.mem_singleton.1 hx]; exact h
theorem cell_lit (w : World) (u : Value) (e : TypeId) : (w.alloc (.cells #[u] e)).cell? ⟨w.heap.size, 0, none⟩ = some u := by
  exact cell_of_one (heap_alloc_new w (.cells #[u] e))
theorem cell_lit2 (w : World) (o : Obj) (u : Value) (e : TypeId) : ((w.alloc o).alloc (.cells #[u] e)).cell? ⟨w.heap.size + 1, 0, none⟩ = some u := by
  have := cell_lit (w.alloc o) u e
  rwa [show (w.alloc o).heap.size = w.heap.size + 1 by simp] at this
theorem size_le1 {B : Nat} {w : World} {o : Obj} (h : B ≤ w.heap.size) : B ≤ (w.alloc o).heap.size := by simp; omega
theorem size_le2 {B : Nat} {w : World} {o o' : Obj} (h : B ≤ w.heap.size) : B ≤ ((w.alloc o).alloc o').heap.size := by simp; omega
theorem below_grow1 {w0 w w1 : World} {row : Option Nat} (hn : Below w0.heap.size w0 w) (hg : w.grownBy w1 row) (hr : ∀ b, row = some b → w0.heap.size ≤ b) : Below w0.heap.size w0 w1 :=
  hn.trans ⟨hg.os, hg.tape, hg.output, hg.size, fun b hb => hg.block b (Nat.lt_of_lt_of_le hb hn.size) fun e => by have := hr b e.symm; omega⟩
theorem outs_new {B : Nat} {w w1 : World} {v v' : Value} {gs : List (List Int)} {k : Int} {hs : List Value} (h1 : w.ownsRow B 24 1 v gs.length hs)
    (h2 : ∀ (j : Nat) h g, hs[j]? = some h → gs[j]? = some g → g ≠ [] ∧ w.ownsRow B 3 1 h g.length (g.map (Value.int .i64)))
    (h3 : ∀ (j j' : Nat) h h', hs[j]? = some h → hs[j']? = some h' → j ≠ j' → h.ownBlock ≠ h'.ownBlock) (hsz : B ≤ w.heap.size) {o : Obj}
    (hv : w1.ownsRow B 24 1 v' (gs.length + 1) (hs ++ [.slice (some ⟨w.heap.size, 0, none⟩) 1 1])) (hg : ((w.alloc (.cells #[.int .i64 k] 3)).alloc o).grownBy w1 v.ownBlock) : Outs B w1 v' (gs ++ [[k]]) := by
  refine Outs.new hs ((h1.alloc _).alloc _) (fun j h g hj hgj => ⟨(h2 j h g hj hgj).1, (((h2 j h g hj hgj).2).alloc _).alloc _⟩) h3 rfl hsz ?_ (fun h hh e => ?_) hg hv
  · rw [heap_alloc_old _ _ (by simp)]; exact heap_alloc_new w _
  · obtain ⟨j, hj⟩ := List.getElem?_of_mem hh
    have hl := Outs.lenEq h1
    have hjl := (List.getElem?_eq_some_iff.1 hj).1
    obtain ⟨r, hr⟩ : ∃ r, gs[j]? = some r := ⟨_, List.getElem?_eq_getElem (by omega)⟩
    have := ((h2 j h r hj hr).2.lt _ e).2
    omega
theorem below_new {w0 w w1 : World} {v : Value} {n : Nat} {xs : List Value} {o o' : Obj} (h1 : w.ownsRow w0.heap.size 24 1 v n xs) (hn : Below w0.heap.size w0 w) (hg : ((w.alloc o).alloc o').grownBy w1 v.ownBlock) : Below w0.heap.size w0 w1 := by
  refine hn.trans ⟨hg.os, hg.tape, hg.output, Nat.le_trans (by simp; omega) hg.size, fun b hb => ?_⟩
  have hs := hn.size
  rw [hg.block b (by simp; omega) (fun e => by have := (h1.lt b e.symm).1; omega), heap_alloc_old _ _ (by simp; omega), heap_alloc_old _ _ (by omega)]
set_option maxHeartbeats 4000000 in
set_option maxRecDepth 100000 in
theorem free_walk {c : Cx} {w : World} {l : List Place} {t : List Bool} {u0 u1 : Value} (hS : Sat c [] w) (r0 : Rep c.F u0 (.sl (l.map Place.ds))) (r1 : Rep c.F u1 (.sl (t.map dB))) (hl : l.length ≤ 1000000) (ho : orderedP l = true) :
    Calls Try.prog 16 #[u0, u1] w fun e w' => ∃ v, e = .returned v ∧ Below w.heap.size w w' ∧ Outs w.heap.size w' v (refTo l t l.length).1 := by
  have hpl := placesAt_of hS.le r0
  obtain ⟨a0, cap0, rfl, hpl⟩ := hpl
  have hord : ∀ W, Below w.heap.size w W → Calls Try.prog 22 #[.slice a0 l.length cap0] W fun e w' => e = .returned (.bool true) ∧ Below W.heap.size W w' := fun W hb => by
    have h := pure_call (us := [.slice a0 l.length cap0]) (orderedR (P := Try.prog) rfl (l := l) rfl (by omega)) hS hb (.cons (.d r0) .nil)
    rw [ho] at h; exact h
  go_enter Try.func16, Try.ntmps16
  go_wp2_with (first | (go_at_call 22; refine (hord _ (Below.refl _ _)).mono ?_; rintro e w1 ⟨rfl, hb1⟩))
  go_loopw [5, 6, 7] (fun v n i wr => ∃ (k : Nat) (gs : List (List Int)) (m : Int), refTo l t k = (gs, m) ∧ k ≤ l.length ∧ i = .int .i64 k ∧ n = .int .i64 m ∧ Outs w.heap.size wr v gs ∧ Below w.heap.size w wr)
    (fun _ _ i _ => l.length - (RowKit.intOf i).toNat)
  case atStart => exact ⟨0, [], -1, rfl, Nat.zero_le _, rfl, rfl, Outs.nil _ _, hb1⟩
  case round =>
    obtain ⟨k, gs, m, hr, hk, rfl, rfl, hO, hnx⟩ := hrel
    by_cases hlt : k < l.length
    · obtain ⟨p, hp⟩ : ∃ p, l[k]? = some p := ⟨_, List.getElem?_eq_getElem hlt⟩
      obtain ⟨b, off, rfl, hb, hc⟩ := hpl k p hp
      have hc0 : wr.cell? ⟨b, off + k * 9, none⟩ = some (.int .i64 p.kind) := (hnx.cell (by exact hb)).trans (hc 0 _ rfl)
      have hc1 : wr.cell? ⟨b, off + k * 9 + 1, none⟩ = some (.int .i64 p.level) := (hnx.cell (by exact hb)).trans (hc 1 _ rfl)
      have hc2 : wr.cell? ⟨b, off + k * 9 + 2, none⟩ = some (.int .i64 p.block) := (hnx.cell (by exact hb)).trans (hc 2 _ rfl)
      have hc3 : wr.cell? ⟨b, off + k * 9 + 3, none⟩ = some (.int .i64 p.row) := (hnx.cell (by exact hb)).trans (hc 3 _ rfl)
      have hc4 : wr.cell? ⟨b, off + k * 9 + 4, none⟩ = some (.int .i64 p.seat) := (hnx.cell (by exact hb)).trans (hc 4 _ rfl)
      have hc5 : wr.cell? ⟨b, off + k * 9 + 5, none⟩ = some (.int .i64 p.x) := (hnx.cell (by exact hb)).trans (hc 5 _ rfl)
      have hc6 : wr.cell? ⟨b, off + k * 9 + 6, none⟩ = some (.int .i64 p.y) := (hnx.cell (by exact hb)).trans (hc 6 _ rfl)
      have hc7 : wr.cell? ⟨b, off + k * 9 + 7, none⟩ = some (.int .i64 p.view) := (hnx.cell (by exact hb)).trans (hc 7 _ rfl)
      have hc8 : wr.cell? ⟨b, off + k * 9 + 8, none⟩ = some (.int .i64 p.wit) := (hnx.cell (by exact hb)).trans (hc 8 _ rfl)
      have hseat : ∀ W, Below w.heap.size w W → Calls Try.prog 24 #[.agg #[.int .i64 p.kind, .int .i64 p.level, .int .i64 p.block, .int .i64 p.row, .int .i64 p.seat, .int .i64 p.x, .int .i64 p.y, .int .i64 p.view, .int .i64 p.wit]] W fun e w' => e = .returned (.bool (isSeat p)) ∧ Below W.heap.size W w' := fun W hb =>
        pure_call (us := [_]) (seatR (P := Try.prog) rfl p) hS hb (.cons (place_rel c p) .nil)
      have hstep : refTo l t (k + 1) = refStep l t (gs, m) k := by rw [refTo, hr]
      rw [refStep, hp] at hstep
      dsimp only at hstep
      cases hs : isSeat p with
      | false =>
        rw [hs] at hseat
        rw [hs, if_pos rfl] at hstep
        go_wp2_with (first | (go_at_call 24; refine (hseat _ hnx).mono ?_; rintro e w2 ⟨rfl, hb2⟩))
        go_roundw
        case rel => exact ⟨k + 1, gs, m, hstep, by omega, by go_num, rfl, hO.kept (grown_of_below hb2), below_to hnx hb2⟩
        case measure => simp [RowKit.intOf]; omega
      | true =>
        rw [hs] at hseat
        rw [hs, if_neg (by simp)] at hstep
        have htk : ∀ W, Below w.heap.size w W → Calls Try.prog 25 #[u1, .int .i64 k] W fun e w' => e = .returned (.bool (takenL t k)) ∧ Below W.heap.size W w' := fun W hb =>
          pure_call (us := [u1, .int .i64 k]) (takenR (P := Try.prog) rfl (l := t) (k : Int) rfl) hS hb (.cons (.d r1) (.cons (.d (.val _ rfl)) .nil))
        have hok := refTo_ok l t k hk
        rw [hr] at hok
        obtain ⟨hm, hgl, hgs⟩ := hok
        dsimp only at hm hgl hgs
        cases ht : takenL t k with
        | true =>
          rw [ht] at htk
          rw [ht, if_pos rfl] at hstep
          go_wp2_with (first | (go_at_call 24; refine (hseat _ hnx).mono ?_; rintro e w2 ⟨rfl, hb2⟩) | (go_at_call 25; refine (htk _ (below_to hnx hb2)).mono ?_; rintro e w3 ⟨rfl, hb3⟩))
          go_roundw
          case rel => exact ⟨k + 1, gs, -1, hstep, by omega, by go_num, rfl, (hO.kept (grown_of_below hb2)).kept (grown_of_below hb3), below_to (below_to hnx hb2) hb3⟩
          case measure => simp [RowKit.intOf]; omega
        | false =>
          rw [ht] at htk
          rw [ht, if_neg (by simp)] at hstep
          go_wp2_with (first | (go_at_call 24; refine (hseat _ hnx).mono ?_; rintro e w2 ⟨rfl, hb2⟩) | (go_at_call 25; refine (htk _ (below_to hnx hb2)).mono ?_; rintro e w3 ⟨rfl, hb3⟩))
          have hn3 := below_to (below_to hnx hb2) hb3
          have hO3 := (hO.kept (grown_of_below hb2)).kept (grown_of_below hb3)
          clear hc0 hc1 hc2 hc3 hc4 hc5 hc6 hc7 hc8 hO hb2 hb3 hseat htk
          by_cases hm0 : 0 ≤ m
          · obtain ⟨m', hmm, hmk, hne⟩ : ∃ m' : Nat, m = m' ∧ m' < k ∧ gs ≠ [] := by
              rcases hm with h | h
              · omega
              · exact h
            subst hmm
            obtain ⟨q, hq⟩ : ∃ q, l[m']? = some q := ⟨_, List.getElem?_eq_getElem (by omega)⟩
            obtain ⟨bq, offq, hbq, _, hcq⟩ := hpl m' q hq
            cases hbq
            have hlk : linked l m' p = nextP q p := by rw [linked, decide_eq_true hm0, Int.toNat_natCast, hq]; rfl
            rw [hlk] at hstep
            have hnx2 : ∀ W, Below w.heap.size w W → Calls Try.prog 23 #[.agg #[.int .i64 q.kind, .int .i64 q.level, .int .i64 q.block, .int .i64 q.row, .int .i64 q.seat, .int .i64 q.x, .int .i64 q.y, .int .i64 q.view, .int .i64 q.wit], .agg #[.int .i64 p.kind, .int .i64 p.level, .int .i64 p.block, .int .i64 p.row, .int .i64 p.seat, .int .i64 p.x, .int .i64 p.y, .int .i64 p.view, .int .i64 p.wit]] W fun e w' => e = .returned (.bool (nextP q p)) ∧ Below W.heap.size W w' := fun W hb =>
              pure_call (us := [_, _]) (nextR (P := Try.prog) rfl q p) hS hb (.cons (place_rel c q) (.cons (place_rel c p) .nil))
            have e0 : w3.cell? ⟨b, off + k * 9, none⟩ = some (.int .i64 p.kind) := (hn3.cell (by exact hb)).trans (hc 0 _ rfl)
            have f0 : w3.cell? ⟨b, off + m' * 9, none⟩ = some (.int .i64 q.kind) := (hn3.cell (by exact hb)).trans (hcq 0 _ rfl)
            have e1 : w3.cell? ⟨b, off + k * 9 + 1, none⟩ = some (.int .i64 p.level) := (hn3.cell (by exact hb)).trans (hc 1 _ rfl)
            have f1 : w3.cell? ⟨b, off + m' * 9 + 1, none⟩ = some (.int .i64 q.level) := (hn3.cell (by exact hb)).trans (hcq 1 _ rfl)
            have e2 : w3.cell? ⟨b, off + k * 9 + 2, none⟩ = some (.int .i64 p.block) := (hn3.cell (by exact hb)).trans (hc 2 _ rfl)
            have f2 : w3.cell? ⟨b, off + m' * 9 + 2, none⟩ = some (.int .i64 q.block) := (hn3.cell (by exact hb)).trans (hcq 2 _ rfl)
            have e3 : w3.cell? ⟨b, off + k * 9 + 3, none⟩ = some (.int .i64 p.row) := (hn3.cell (by exact hb)).trans (hc 3 _ rfl)
            have f3 : w3.cell? ⟨b, off + m' * 9 + 3, none⟩ = some (.int .i64 q.row) := (hn3.cell (by exact hb)).trans (hcq 3 _ rfl)
            have e4 : w3.cell? ⟨b, off + k * 9 + 4, none⟩ = some (.int .i64 p.seat) := (hn3.cell (by exact hb)).trans (hc 4 _ rfl)
            have f4 : w3.cell? ⟨b, off + m' * 9 + 4, none⟩ = some (.int .i64 q.seat) := (hn3.cell (by exact hb)).trans (hcq 4 _ rfl)
            have e5 : w3.cell? ⟨b, off + k * 9 + 5, none⟩ = some (.int .i64 p.x) := (hn3.cell (by exact hb)).trans (hc 5 _ rfl)
            have f5 : w3.cell? ⟨b, off + m' * 9 + 5, none⟩ = some (.int .i64 q.x) := (hn3.cell (by exact hb)).trans (hcq 5 _ rfl)
            have e6 : w3.cell? ⟨b, off + k * 9 + 6, none⟩ = some (.int .i64 p.y) := (hn3.cell (by exact hb)).trans (hc 6 _ rfl)
            have f6 : w3.cell? ⟨b, off + m' * 9 + 6, none⟩ = some (.int .i64 q.y) := (hn3.cell (by exact hb)).trans (hcq 6 _ rfl)
            have e7 : w3.cell? ⟨b, off + k * 9 + 7, none⟩ = some (.int .i64 p.view) := (hn3.cell (by exact hb)).trans (hc 7 _ rfl)
            have f7 : w3.cell? ⟨b, off + m' * 9 + 7, none⟩ = some (.int .i64 q.view) := (hn3.cell (by exact hb)).trans (hcq 7 _ rfl)
            have e8 : w3.cell? ⟨b, off + k * 9 + 8, none⟩ = some (.int .i64 p.wit) := (hn3.cell (by exact hb)).trans (hc 8 _ rfl)
            have f8 : w3.cell? ⟨b, off + m' * 9 + 8, none⟩ = some (.int .i64 q.wit) := (hn3.cell (by exact hb)).trans (hcq 8 _ rfl)
            have hd : decide ((0 : Int) ≤ (m' : Int)) = true := decide_eq_true hm0
            have hlt3 : b < w3.heap.size := Nat.lt_of_lt_of_le hb hn3.size
            have g1 : (0 : Int) ≤ (k : Int) := by omega
            have g2 : (k : Int) < (l.length : Int) := by omega
            have g3 : (m' : Int) < (l.length : Int) := by omega
            go_region_held3 (fun w' => w'.cell? ⟨b, off + k * 9, none⟩ = some (.int .i64 p.kind) ∧ w'.cell? ⟨b, off + k * 9 + 1, none⟩ = some (.int .i64 p.level) ∧ w'.cell? ⟨b, off + k * 9 + 2, none⟩ = some (.int .i64 p.block) ∧ w'.cell? ⟨b, off + k * 9 + 3, none⟩ = some (.int .i64 p.row) ∧ w'.cell? ⟨b, off + k * 9 + 4, none⟩ = some (.int .i64 p.seat) ∧ w'.cell? ⟨b, off + k * 9 + 5, none⟩ = some (.int .i64 p.x) ∧ w'.cell? ⟨b, off + k * 9 + 6, none⟩ = some (.int .i64 p.y) ∧ w'.cell? ⟨b, off + k * 9 + 7, none⟩ = some (.int .i64 p.view) ∧ w'.cell? ⟨b, off + k * 9 + 8, none⟩ = some (.int .i64 p.wit) ∧ w'.cell? ⟨b, off + m' * 9, none⟩ = some (.int .i64 q.kind) ∧ w'.cell? ⟨b, off + m' * 9 + 1, none⟩ = some (.int .i64 q.level) ∧ w'.cell? ⟨b, off + m' * 9 + 2, none⟩ = some (.int .i64 q.block) ∧ w'.cell? ⟨b, off + m' * 9 + 3, none⟩ = some (.int .i64 q.row) ∧ w'.cell? ⟨b, off + m' * 9 + 4, none⟩ = some (.int .i64 q.seat) ∧ w'.cell? ⟨b, off + m' * 9 + 5, none⟩ = some (.int .i64 q.x) ∧ w'.cell? ⟨b, off + m' * 9 + 6, none⟩ = some (.int .i64 q.y) ∧ w'.cell? ⟨b, off + m' * 9 + 7, none⟩ = some (.int .i64 q.view) ∧ w'.cell? ⟨b, off + m' * 9 + 8, none⟩ = some (.int .i64 q.wit))
              (first | (refine ⟨?_, ?_, ?_, ?_, ?_, ?_, ?_, ?_, ?_, ?_, ?_, ?_, ?_, ?_, ?_, ?_, ?_, ?_⟩ <;> first | go_keep | assumption | exact (hb4.cell (by exact hlt3)).trans e0 | exact (hb4.cell (by exact hlt3)).trans e1 | exact (hb4.cell (by exact hlt3)).trans e2 | exact (hb4.cell (by exact hlt3)).trans e3 | exact (hb4.cell (by exact hlt3)).trans e4 | exact (hb4.cell (by exact hlt3)).trans e5 | exact (hb4.cell (by exact hlt3)).trans e6 | exact (hb4.cell (by exact hlt3)).trans e7 | exact (hb4.cell (by exact hlt3)).trans e8 | exact (hb4.cell (by exact hlt3)).trans f0 | exact (hb4.cell (by exact hlt3)).trans f1 | exact (hb4.cell (by exact hlt3)).trans f2 | exact (hb4.cell (by exact hlt3)).trans f3 | exact (hb4.cell (by exact hlt3)).trans f4 | exact (hb4.cell (by exact hlt3)).trans f5 | exact (hb4.cell (by exact hlt3)).trans f6 | exact (hb4.cell (by exact hlt3)).trans f7 | exact (hb4.cell (by exact hlt3)).trans f8))
              (first | (go_at_call 23; refine (hnx2 _ (by first | exact hn3 | exact bl_drew hn3 | exact bl_drewN hn3 _)).mono ?_; rintro e w4 ⟨rfl, hb4⟩))
            have hn4 : Below w.heap.size w w4 := below_to hn3 ⟨hb4.os, hb4.tape, hb4.output, hb4.size, hb4.block⟩
            have hO4 : Outs w.heap.size w4 u5 gs := hO3.kept ⟨hb4.os, hb4.tape, hb4.output, hb4.size, fun b hb' _ => hb4.block b hb'⟩
            clear hO3 hn3 hnx2 hb4 hlt3 e0 f0 e1 f1 e2 f2 e3 f3 e4 f4 e5 f5 e6 f6 e7 f7 e8 f8
            obtain ⟨hs', h1, h2, h3⟩ := hO4
            cases hnp : nextP q p with
            | false =>
              rw [hnp, if_neg (by simp)] at hstep
              obtain ⟨i0, hi, hz0, hz1, hz2⟩ := info_parts info24
              have hsz := hn4.size
              go_wp2_with (first | (at_builtin; refine wpList_append_own _ rfl _ _ 28 rfl w.heap.size 24 i0 (.slice none 0 0) 1 24 Try.underlying28 hi hz0 hz1 hz2 rfl (by decide) _ _ _ rfl ((h1.alloc _).alloc _) ⟨w4.heap.size + 1, 0, none⟩ 1 1 [.slice (some ⟨w4.heap.size, 0, none⟩) 1 1] rfl rfl (lit_news (cell_lit2 _ _ _ _)) (lit_one rfl) (by unfold maxLen; omega) (by omega) (size_le2 hsz) ?_))
              · intro v' w5 hown' hgrow _
                have hO5 := outs_new (k := k) h1 h2 h3 hsz hown' hgrow
                have hn5 : Below w.heap.size w w5 := below_new (v := u5) h1 hn4 hgrow
                clear hown' hgrow h1 h2 h3
                go_wp2
                go_roundw
                case rel => exact ⟨k + 1, _, k, hstep, by omega, by go_num, rfl, hO5, hn5⟩
                case measure => simp [RowKit.intOf]; omega
            | true =>
              rw [hnp, if_pos rfl] at hstep
              obtain ⟨gs', g, rfl⟩ : ∃ gs' g, gs = gs' ++ [g] := by
                rcases List.eq_nil_or_concat gs with h | ⟨a, b, h⟩
                · exact absurd h hne
                · exact ⟨a, b, by simpa using h⟩
              have hl' := Outs.lenEq h1
              have el : (gs' ++ [g]).length = gs'.length + 1 := by simp
              rw [el] at h1 hl' hgl
              obtain ⟨hs0, h, rfl⟩ : ∃ hs0 h, hs' = hs0 ++ [h] := by
                rcases List.eq_nil_or_concat hs' with h | ⟨a, b, h⟩
                · rw [h] at hl'; cases hl'
                · exact ⟨a, b, by simpa using h⟩
              have hl0 : hs0.length = gs'.length := by simpa using hl'
              obtain ⟨g0, cap, cur, rfl, hg0, _⟩ := row_block h1 (by omega)
              have hcell : w4.cell? ⟨g0, gs'.length, none⟩ = some h := by rw [h1.cellAt _ (by omega), ← hl0]; simp
              obtain ⟨hgne, hgr⟩ := h2 gs'.length h g (by rw [← hl0]; simp) (by simp)
              have hglen := (hgs g (by simp)).2
              have hb0 : h.ownBlock ≠ some g0 := row_ne hgr h1 (by decide) (List.length_pos_iff.2 hgne)
              have hst : refTo l t (k + 1) = (gs' ++ [g ++ [(k : Int)]], (k : Int)) := by rw [hstep]; simp
              have e1 : IntKind.i64.wrap ((gs'.length : Int) + 1 - 1) = (gs'.length : Int) := by rw [wr64 (by omega) (by omega)]; omega
              have g4 : (0 : Int) ≤ (gs'.length : Int) := by omega
              have g5 : (gs'.length : Int) < (gs'.length : Int) + 1 := by omega
              have hsz := hn4.size
              clear hstep hgs hm
              obtain ⟨i0, hi, hz0, hz1, hz2⟩ := info_parts info3
              go_wp2_with (first | (at_builtin; refine wpList_append_own_at _ rfl (.tmp 48) (.tmp 50) 24 rfl w.heap.size 3 i0 (.int .i64 0) 1 8 Try.underlying24 hi hz0 hz1 hz2 rfl (by decide) _ _ _ rfl (hgr.alloc _) ⟨w4.heap.size, 0, none⟩ 1 1 [.int .i64 k] rfl rfl (lit_news (cell_lit _ _ _)) (lit_one rfl) (by unfold maxLen; omega) (by omega) (size_le1 hsz) ?_))
              intro v' w5 hown' hgrow _ hat
              obtain ⟨b1, cap1, cur1, rfl, _, _⟩ := row_block hown' (by omega)
              have h15 := (h1.alloc (.cells #[.int .i64 (k : Int)] 3)).kept hgrow (.inr fun e => hb0 e.symm)
              have hc5 : w5.cell? ⟨g0, gs'.length, none⟩ = some h := by rw [h15.cellAt _ (by omega), ← hl0]; simp
              have hf5 := h15.frozenAt gs'.length
              have hO5 := Outs.more (m := gs'.length) hs0 (h1.alloc _) (fun j x r hj hr => ⟨(h2 j x r hj hr).1, (h2 j x r hj hr).2.alloc _⟩) h3 hgrow hown' (by simpa using hat) rfl
              have hn5 : Below w.heap.size w w5 := below_grow1 (hn4.alloc hsz _) hgrow fun b hb => (hgr.lt b hb).1
              have hn6 : Below w.heap.size w (w5.setCell ⟨g0, gs'.length, none⟩ (.slice (some ⟨b1, 0, none⟩) (g.length + 1) cap1)) := below_grow1 hn5 (h15.stored gs'.length (.slice (some ⟨b1, 0, none⟩) (g.length + 1) cap1)).2 fun b hb => by cases hb; exact hg0
              clear hown' hgrow h1 h2 h3 h15 hgr hat hn5 hn4 hcell
              go_wp2
              go_roundw
              case rel => exact ⟨k + 1, _, k, hst, by omega, by go_num, rfl, by simpa using hO5, hn6⟩
              case measure => simp [RowKit.intOf]; omega
          · have hd : decide ((0 : Int) ≤ m) = false := decide_eq_false hm0
            have hlk : linked l m p = false := by rw [linked, hd]; rfl
            rw [hlk, if_neg (by simp)] at hstep
            go_quiet (fail)
            obtain ⟨w4, hw4⟩ : ∃ W, W = w3.drewN nq := ⟨_, rfl⟩
            rw [← hw4]
            have hn4 : Below w.heap.size w w4 := by rw [hw4]; exact ⟨hn3.os, hn3.tape, hn3.output, hn3.size, hn3.block⟩
            have hO4 : Outs w.heap.size w4 u5 gs := by rw [hw4]; exact hO3.kept ⟨rfl, rfl, rfl, Nat.le_refl _, fun _ _ _ => rfl⟩
            clear hw4 hO3 hn3
            obtain ⟨hs', h1, h2, h3⟩ := hO4
            obtain ⟨i0, hi, hz0, hz1, hz2⟩ := info_parts info24
            have hsz := hn4.size
            go_wp2_with (first | (at_builtin; refine wpList_append_own _ rfl _ _ 28 rfl w.heap.size 24 i0 (.slice none 0 0) 1 24 Try.underlying28 hi hz0 hz1 hz2 rfl (by decide) _ _ _ rfl ((h1.alloc _).alloc _) ⟨w4.heap.size + 1, 0, none⟩ 1 1 [.slice (some ⟨w4.heap.size, 0, none⟩) 1 1] rfl rfl (lit_news (cell_lit2 _ _ _ _)) (lit_one rfl) (by unfold maxLen; omega) (by omega) (size_le2 hsz) ?_))
            · intro v' w5 hown' hgrow _
              have hO5 := outs_new (k := k) h1 h2 h3 hsz hown' hgrow
              have hn5 : Below w.heap.size w w5 := below_new (v := u5) h1 hn4 hgrow
              clear hown' hgrow h1 h2 h3
              go_wp2
              go_roundw
              case rel => exact ⟨k + 1, _, k, hstep, by omega, by go_num, rfl, hO5, hn5⟩
              case measure => simp [RowKit.intOf]; omega
    · have hke : k = l.length := by omega
      subst hke
      go_wp2
      go_ret
      exact ⟨_, rfl, hnx, by rw [hr]; exact hO⟩
set_option maxRecDepth 100000 in
theorem free_no {c : Cx} {w : World} {l : List Place} {u0 u1 : Value} (hS : Sat c [] w) (r0 : Rep c.F u0 (.sl (l.map Place.ds))) (hl : l.length ≤ 1000000) (ho : orderedP l = false) :
    Calls Try.prog 16 #[u0, u1] w fun e w' => ∃ v, e = .returned v ∧ Below w.heap.size w w' ∧ Outs w.heap.size w' v [] := by
  have hord : ∀ W, Below w.heap.size w W → Calls Try.prog 22 #[u0] W fun e w' => e = .returned (.bool false) ∧ Below W.heap.size W w' := fun W hb => by
    have h := pure_call (us := [u0]) (orderedR (P := Try.prog) rfl (l := l) rfl (by omega)) hS hb (.cons (.d r0) .nil)
    rw [ho] at h; exact h
  go_enter Try.func16, Try.ntmps16
  go_wp2_with (first | (go_at_call 22; refine (hord _ (Below.refl _ _)).mono ?_; rintro e w1 ⟨rfl, hb1⟩))
  go_ret
  exact ⟨_, rfl, hb1, Outs.nil _ _⟩
theorem free_calls {c : Cx} {w : World} {l : List Place} {t : List Bool} {u0 u1 : Value} (hS : Sat c [] w) (r0 : Rep c.F u0 (.sl (l.map Place.ds))) (r1 : Rep c.F u1 (.sl (t.map dB))) (hl : l.length ≤ 1000000) :
    Calls Try.prog 16 #[u0, u1] w fun e w' => ∃ v, e = .returned v ∧ Below w.heap.size w w' ∧ Outs w.heap.size w' v (refFree l t) := by
  unfold refFree
  cases ho : orderedP l with
  | true => exact free_walk hS r0 r1 hl ho
  | false => exact free_no hS r0 hl ho
/-- All that the call made is data from then on. -/
def allCx (c : Cx) (n : Nat) (w' : World) : Cx := ⟨c.θ, fun b => if n ≤ b then w'.heap[b]? else c.F b, c.N⟩
theorem Outs.rep {c : Cx} {n : Nat} {w' : World} {v : Value} {gs : List (List Int)} (h : Outs n w' v gs) : Rep (allCx c n w').F v (.sl (gs.map dL)) := by
  obtain ⟨hs, h1, h2, h3⟩ := h
  have hl := Outs.lenEq h1
  have hF : ∀ {b o}, n ≤ b → w'.heap[b]? = some o → (allCx c n w').F b = some o := fun {b o} hb ho => by
    show (if n ≤ b then w'.heap[b]? else c.F b) = some o
    rw [if_pos hb]; exact ho
  have row : ∀ {h : Value} {g : List Int}, g ≠ [] → w'.ownsRow n 3 1 h g.length (g.map (Value.int .i64)) → Rep (allCx c n w').F h (.sl (g.map dI)) := fun {h g} hne hr => by
    obtain ⟨e1, e2⟩ := hr
    rcases e2 with ⟨_, e0⟩ | ⟨b, cap, cur, rfl, hb, hcur, hcap, _, _, htake⟩
    · exact absurd (List.eq_nil_of_length_eq_zero e0) hne
    · have := Rep.sl (F := (allCx c n w').F) b 0 cap cur 3 (0, 0) (g.map dI) 1 (fun i _ => .int .i64 (g.getD i 0)) (hF hb hcur) (by simpa using hcap) (fun i ds hi => by
          rw [List.getElem?_map, Option.map_eq_some_iff] at hi
          obtain ⟨x, _, rfl⟩ := hi; rfl) (fun i ds j d hi hj => by
          rw [List.getElem?_map, Option.map_eq_some_iff] at hi
          obtain ⟨x, hx, rfl⟩ := hi
          have hj0 : j = 0 := by have := (List.getElem?_eq_some_iff.1 hj).1; simp [dI] at this; omega
          subst hj0
          have hil := (List.getElem?_eq_some_iff.1 hx).1
          have e3 : (cur.toList.take (g.length * 1))[i]? = some (.int .i64 x) := by rw [htake, List.getElem?_map, hx]; rfl
          rw [List.getElem?_take_of_lt (by omega)] at e3
          have e4 : g.getD i 0 = x := by rw [List.getD_eq_getElem?_getD, hx]; rfl
          rw [e4]
          simpa using e3) (fun i ds j d hi hj => by
          rw [List.getElem?_map, Option.map_eq_some_iff] at hi
          obtain ⟨x, hx, rfl⟩ := hi
          have hj0 : j = 0 := by have := (List.getElem?_eq_some_iff.1 hj).1; simp [dI] at this; omega
          subst hj0
          have e4 : g.getD i 0 = x := by rw [List.getD_eq_getElem?_getD, hx]; rfl
          rw [e4]
          cases hj
          exact .val _ rfl)
      rwa [List.length_map] at this
  by_cases hgs : gs = []
  · subst hgs
    rcases h1.2 with ⟨rfl, _⟩ | ⟨b, cap, cur, rfl, _⟩
    · exact .nil none 0 fun _ => rfl
    · exact .nil _ cap fun e => by cases e
  · obtain ⟨e1, e2⟩ := h1
    rcases e2 with ⟨_, e0⟩ | ⟨b, cap, cur, rfl, hb, hcur, hcap, _, _, htake⟩
    · exact absurd (List.eq_nil_of_length_eq_zero e0) hgs
    · have get : ∀ (i : Nat) g, gs[i]? = some g → ∃ h, hs[i]? = some h ∧ cur[i]? = some h ∧ hs.getD i (.slice none 0 0) = h := fun i g hi => by
        have hil := (List.getElem?_eq_some_iff.1 hi).1
        obtain ⟨h, hh⟩ : ∃ h, hs[i]? = some h := ⟨_, List.getElem?_eq_getElem (by omega)⟩
        have e3 : (cur.toList.take (gs.length * 1))[i]? = some h := by rw [htake]; exact hh
        rw [List.getElem?_take_of_lt (by omega)] at e3
        exact ⟨h, hh, by simpa using e3, by rw [List.getD_eq_getElem?_getD, hh]; rfl⟩
      have := Rep.sl (F := (allCx c n w').F) b 0 cap cur 24 (0, 0) (gs.map dL) 1 (fun i _ => hs.getD i (.slice none 0 0)) (hF hb hcur) (by simpa using hcap) (fun i ds hi => by
          rw [List.getElem?_map, Option.map_eq_some_iff] at hi
          obtain ⟨x, _, rfl⟩ := hi; rfl) (fun i ds j d hi hj => by
          rw [List.getElem?_map, Option.map_eq_some_iff] at hi
          obtain ⟨x, hx, rfl⟩ := hi
          have hj0 : j = 0 := by have := (List.getElem?_eq_some_iff.1 hj).1; simp [dL] at this; omega
          subst hj0
          obtain ⟨h, _, k2, k3⟩ := get i x hx
          rw [k3]; simpa using k2) (fun i ds j d hi hj => by
          rw [List.getElem?_map, Option.map_eq_some_iff] at hi
          obtain ⟨x, hx, rfl⟩ := hi
          have hj0 : j = 0 := by have := (List.getElem?_eq_some_iff.1 hj).1; simp [dL] at this; omega
          subst hj0
          obtain ⟨h, k1, _, k3⟩ := get i x hx
          rw [k3]
          cases hj
          obtain ⟨r1, r2⟩ := h2 i h x k1 hx
          exact row r1 r2)
      rwa [List.length_map] at this
theorem ok16 : okFn Try.prog 16 = true := by kernel_rfl
theorem refFreeR {P : Program} (hP : P = Try.prog) {l : List Place} {el : List (List D)} {t : List Bool} {et : List (List D)} (hel : el = l.map Place.ds) (het : et = t.map dB) (hl : l.length ≤ 1000000) :
    Fn1 P 16 [.d (.sl el), .d (.sl et)] (.d (.sl ((refFree l t).map dL))) := by
  subst hP hel het
  refine ⟨ok16, fun c w us hS hr => ?_⟩
  obtain ⟨u0, us0, rfl, hu0, hr⟩ := RelL.cons_iff.1 hr
  obtain ⟨u1, us1, rfl, hu1, hr⟩ := RelL.cons_iff.1 hr
  obtain rfl := RelL.nil_iff.1 hr
  cases hu0 with | d r0 =>
  cases hu1 with | d r1 =>
  refine (free_calls hS r0 r1 hl).mono ?_
  rintro e w' ⟨v, rfl, hb, hO⟩
  have hle : c.le (allCx c w.heap.size w') := ⟨Nat.le_refl _, fun _ _ => rfl, fun b o hb' => by
    show (if w.heap.size ≤ b then w'.heap[b]? else c.F b) = some o
    rw [if_neg (by have := hS.F_lt hb'; omega)]; exact hb'⟩
  have hS' : Sat (allCx c w.heap.size w') [] w' := hS.on hle rfl hS.one (fun b hb' => hb.block b hb') (fun b o hb' => by
    have hb' : (if w.heap.size ≤ b then w'.heap[b]? else c.F b) = some o := hb'
    split at hb'
    · exact hb'
    · rw [hb.block b (hS.F_lt hb')]; exact hS.le b o hb') (fun b hb' => by
    have hb' : (if w.heap.size ≤ b then w'.heap[b]? else c.F b) ≠ none := hb'
    split at hb'
    · exact .inr (by assumption)
    · exact .inl hb')
  exact ⟨allCx c w.heap.size w', [], _, _, rfl, .d hO.rep, hS', hle, ⟨hb.os, hb.tape, hb.output, hb.size, fun b hb' _ => hb.block b hb', fun b hb' => by
    have hb' : (if w.heap.size ≤ b then w'.heap[b]? else c.F b) ≠ none := hb'
    split at hb'
    · exact .inr (.inl (by assumption))
    · exact .inl hb', fun b ⟨r, x, hx, _⟩ => (by cases hx), hle.f⟩, rfl⟩
end Go.SX.Runs
