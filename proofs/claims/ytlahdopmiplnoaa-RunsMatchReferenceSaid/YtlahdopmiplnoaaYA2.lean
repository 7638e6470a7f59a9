/-
  Runs: the reference's Free, stepped through by hand (it appends to an element of a slice of slices).
-/
import Derived.Test.YtlahdopmiplnoaaYA1
import Derived.Maps.AppendAt
import Derived.Deep.RegionHeld3
import Derived.OneCell
import Derived.WalkKit
set_option linter.unusedSimpArgs false
set_option linter.unusedVariables false
set_option linter.unusedSectionVars false
namespace Go.SX.Runs
open Go Go.SX Go.Proofs Go.RowKit

def Place.vals (p : Place) : List Value := [.int .i64 p.kind, .int .i64 p.level, .int .i64 p.block, .int .i64 p.row, .int .i64 p.seat, .int .i64 p.x, .int .i64 p.y, .int .i64 p.view, .int .i64 p.wit]
theorem place_rel (c : Cx) (p : Place) : Rel c p.sv (.agg #[.int .i64 p.kind, .int .i64 p.level, .int .i64 p.block, .int .i64 p.row, .int .i64 p.seat, .int .i64 p.x, .int .i64 p.y, .int .i64 p.view, .int .i64 p.wit]) := by
  refine .agg rfl fun i s u h1 h2 => ?_
  have hi : i < 9 := (List.getElem?_eq_some_iff.1 h1).1
  match i, hi with
  | 0, _ => cases h1; cases h2; exact .d (.val _ rfl)
  | 1, _ => cases h1; cases h2; exact .d (.val _ rfl)
  | 2, _ => cases h1; cases h2; exact .d (.val _ rfl)
  | 3, _ => cases h1; cases h2; exact .d (.val _ rfl)
  | 4, _ => cases h1; cases h2; exact .d (.val _ rfl)
  | 5, _ => cases h1; cases h2; exact .d (.val _ rfl)
  | 6, _ => cases h1; cases h2; exact .d (.val _ rfl)
  | 7, _ => cases h1; cases h2; exact .d (.val _ rfl)
  | 8, _ => cases h1; cases h2; exact .d (.val _ rfl)
/-- A slice of places, as the walk sees it. -/
def PlacesAt (w : World) (v : Value) (l : List Place) : Prop :=
  ∃ a cap, v = .slice a l.length cap ∧ ∀ (n : Nat) p, l[n]? = some p → ∃ b off, a = some ⟨b, off, none⟩ ∧ b < w.heap.size ∧ ∀ (j : Nat) u, p.vals[j]? = some u → w.cell? ⟨b, off + n * 9 + j, none⟩ = some u
theorem placesAt_of {F : Fz} {w : World} {v : Value} {l : List Place} (hF : ∀ b o, F b = some o → w.heap[b]? = some o) (h : Rep F v (.sl (l.map Place.ds))) : PlacesAt w v l := by
  have hlen : (l.map Place.ds).length = l.length := List.length_map _
  generalize hd : D.sl (l.map Place.ds) = d at h
  cases h with
  | val v h => cases hd
  | nil a cap h =>
    injection hd with hd
    have : l = [] := by rw [hd] at hlen; exact List.eq_nil_of_length_eq_zero hlen.symm
    subst this
    exact ⟨a, cap, rfl, fun n p hp => by cases hp⟩
  | sl b off cap c e fr es sz g hb hcap hsz hc hr =>
    injection hd with hd
    subst hd
    have hw := hF _ _ hb
    refine ⟨some ⟨b, off, none⟩, cap, by rw [hlen], fun n p hp => ⟨b, off, rfl, (Array.getElem?_eq_some_iff.1 hw).1, fun j u hj => ?_⟩⟩
    have hes : (l.map Place.ds)[n]? = some p.ds := by rw [List.getElem?_map, hp]; rfl
    have h1 : 9 = sz := hsz n _ hes
    subst h1
    have hd : p.ds[j]? = some (.val u) := by
      have e : p.ds = p.vals.map D.val := rfl
      rw [e, List.getElem?_map, hj]; rfl
    have h2 := hc n _ j _ hes hd
    obtain ⟨h3, _⟩ := Rep.val_iff.1 (hr n _ j _ hes hd)
    rw [h3] at h2
    simp only [World.cell?, hw, Option.isSome_none, Bool.false_eq_true, if_false]
    exact h2
/-- A call that only reads, by its contract. -/
theorem pure_call {P : Program} {f : FuncId} {ss : List SV} {v : Value} (h : Fn1 P f ss (.d (.val v))) {c : Cx} {w0 w : World} {us : List Value} (hS : Sat c [] w0) (hb : Below w0.heap.size w0 w) (hr : RelL c ss us) :
    Calls P f us.toArray w fun e w' => e = .returned v ∧ Below w.heap.size w w' := by
  have hS' : Sat c [] w := hS.on (.refl c) rfl hS.one (fun b hb' => hb.block b hb') (fun b o hb' => by rw [hb.block b (hS.F_lt hb')]; exact hS.le b o hb') (fun b hb' => .inl hb')
  refine (h.2 c w us hS' hr).mono ?_
  rintro e w' ⟨c', own', sv, u, rfl, h1, h2, h3, h4, rfl⟩
  obtain rfl := h1.of_val
  exact ⟨rfl, ⟨h4.os, h4.tape, h4.output, h4.size, fun b hb' => h4.keep b hb' (fun ⟨r, x, hx, _⟩ => by cases hx)⟩⟩
/-- The runs so far, in the call's own blocks. -/
def Outs (B : Nat) (w : World) (v : Value) (gs : List (List Int)) : Prop :=
  ∃ hs : List Value, w.ownsRow B 24 1 v gs.length hs ∧ (∀ (j : Nat) h g, hs[j]? = some h → gs[j]? = some g → g ≠ [] ∧ w.ownsRow B 3 1 h g.length (g.map (Value.int .i64))) ∧
    ∀ (j j' : Nat) h h', hs[j]? = some h → hs[j']? = some h' → j ≠ j' → h.ownBlock ≠ h'.ownBlock
theorem row_block {w : World} {B : Nat} {e : TypeId} {sz n : Nat} {v : Value} {xs : List Value} (h : w.ownsRow B e sz v n xs) (hn : 0 < n) : ∃ g cap cur, v = .slice (some ⟨g, 0, none⟩) n cap ∧ B ≤ g ∧ w.heap[g]? = some (.cells cur e (0, 0)) := by
  rcases h.2 with ⟨_, h0⟩ | ⟨g, cap, cur, h1, h2, h3, _⟩
  · omega
  · exact ⟨g, cap, cur, h1, h2, h3⟩
/-- Rows of other elements lie in other blocks. -/
theorem row_ne {w : World} {B B' : Nat} {e e' : TypeId} {sz n sz' n' : Nat} {v v' : Value} {xs xs' : List Value} (h : w.ownsRow B e sz v n xs) (h' : w.ownsRow B' e' sz' v' n' xs') (he : e ≠ e') (hn : 0 < n) : v.ownBlock ≠ v'.ownBlock := by
  obtain ⟨g, cap, cur, rfl, _, h1⟩ := row_block h hn
  rcases h'.2 with ⟨rfl, _⟩ | ⟨g', cap', cur', rfl, _, h2, _⟩
  · simp [Value.ownBlock]
  · intro e0
    simp only [Value.ownBlock, Option.some.injEq] at e0
    subst e0
    rw [h1] at h2; cases h2; exact he rfl
theorem Outs.kept {B : Nat} {w w' : World} {v : Value} {gs : List (List Int)} (h : Outs B w v gs) (hg : w.grownBy w' none) : Outs B w' v gs := by
  obtain ⟨hs, h1, h2, h3⟩ := h
  refine ⟨hs, h1.kept hg ?_, fun j h g hj hgj => ⟨(h2 j h g hj hgj).1, (h2 j h g hj hgj).2.kept hg ?_⟩, h3⟩
  · cases hb : v.ownBlock with
    | none => exact .inl rfl
    | some b => exact .inr (by simp)
  · cases hb : h.ownBlock with
    | none => exact .inl rfl
    | some b => exact .inr (by simp)
theorem grown_of_below {w w' : World} (h : Below w.heap.size w w') : w.grownBy w' none := ⟨h.os, h.tape, h.output, h.size, fun k hk _ => h.block k hk⟩
theorem Outs.lenEq {B : Nat} {w : World} {v : Value} {gs : List (List Int)} {hs : List Value} (h : w.ownsRow B 24 1 v gs.length hs) : hs.length = gs.length := by rw [h.1, Nat.mul_one]
/-- A new run. -/
theorem Outs.new {B : Nat} {w w1 : World} {v v' : Value} {gs : List (List Int)} {k : Int} (hs : List Value) (h1 : w.ownsRow B 24 1 v gs.length hs)
    (h2 : ∀ (j : Nat) h g, hs[j]? = some h → gs[j]? = some g → g ≠ [] ∧ w.ownsRow B 3 1 h g.length (g.map (Value.int .i64)))
    (h3 : ∀ (j j' : Nat) h h', hs[j]? = some h → hs[j']? = some h' → j ≠ j' → h.ownBlock ≠ h'.ownBlock)
    {x : Value} {b : Nat} (hx : x = .slice (some ⟨b, 0, none⟩) 1 1) (hb : B ≤ b) (hw : w.heap[b]? = some (.cells #[.int .i64 k] 3 (0, 0))) (hfresh : ∀ h ∈ hs, h.ownBlock ≠ some b)
    (hg : w.grownBy w1 v.ownBlock) (hv : w1.ownsRow B 24 1 v' (gs.length + 1) (hs ++ [x])) : Outs B w1 v' (gs ++ [[k]]) := by
  have hl := Outs.lenEq h1
  have hx1 : w.ownsRow B 3 1 x 1 [.int .i64 k] := ⟨rfl, .inr ⟨b, 1, #[.int .i64 k], hx, hb, hw, Nat.le_refl _, by decide, rfl, rfl⟩⟩
  have keep : ∀ {h n xs}, 0 < n → w.ownsRow B 3 1 h n xs → w1.ownsRow B 3 1 h n xs := fun {h n xs} hn hr => hr.kept hg (.inr (row_ne hr h1 (by decide) hn))
  refine ⟨hs ++ [x], by simpa using hv, fun j h g hj hgj => ?_, fun j j' h h' hj hj' hne => ?_⟩
  · rcases Nat.lt_or_ge j hs.length with hlt | hge
    · rw [List.getElem?_append_left hlt] at hj
      rw [List.getElem?_append_left (by omega)] at hgj
      obtain ⟨k1, k2⟩ := h2 j h g hj hgj
      exact ⟨k1, keep (List.length_pos_iff.2 k1) k2⟩
    · rw [List.getElem?_append_right hge] at hj
      rw [List.getElem?_append_right (by omega)] at hgj
      have hj0 := (List.getElem?_eq_some_iff.1 hj).1
      simp only [List.length_singleton] at hj0
      have e1 : j - hs.length = 0 := by omega
      have e2 : j - gs.length = 0 := by omega
      rw [e1] at hj; rw [e2] at hgj
      cases hj; cases hgj
      exact ⟨by simp, keep (by simp) hx1⟩
  · have at' : ∀ (j : Nat) h, (hs ++ [x])[j]? = some h → (j < hs.length ∧ hs[j]? = some h) ∨ (j = hs.length ∧ h = x) := fun j h hj => by
      rcases Nat.lt_or_ge j hs.length with hlt | hge
      · rw [List.getElem?_append_left hlt] at hj; exact .inl ⟨hlt, hj⟩
      · rw [List.getElem?_append_right hge] at hj
        have hj0 := (List.getElem?_eq_some_iff.1 hj).1
        simp only [List.length_singleton] at hj0
        have e1 : j - hs.length = 0 := by omega
        rw [e1] at hj; cases hj
        exact .inr ⟨by omega, rfl⟩
    have hxb : x.ownBlock = some b := by rw [hx]; rfl
    rcases at' j h hj with ⟨a1, a2⟩ | ⟨a1, rfl⟩ <;> rcases at' j' h' hj' with ⟨b1, b2⟩ | ⟨b1, rfl⟩
    · exact h3 j j' h h' a2 b2 hne
    · rw [hxb]; exact hfresh h (List.mem_of_getElem? a2)
    · rw [hxb]; exact fun e => hfresh h' (List.mem_of_getElem? b2) e.symm
    · omega
/-- The last run grows. -/
theorem Outs.more {B : Nat} {w w1 : World} {g0 cap m : Nat} {gs : List (List Int)} {g : List Int} {k : Int} (hs : List Value) {h h' : Value} (h1 : w.ownsRow B 24 1 (.slice (some ⟨g0, 0, none⟩) (gs.length + 1) cap) (gs.length + 1) (hs ++ [h]))
    (h2 : ∀ (j : Nat) x r, (hs ++ [h])[j]? = some x → (gs ++ [g])[j]? = some r → r ≠ [] ∧ w.ownsRow B 3 1 x r.length (r.map (Value.int .i64)))
    (h3 : ∀ (j j' : Nat) x x', (hs ++ [h])[j]? = some x → (hs ++ [h])[j']? = some x' → j ≠ j' → x.ownBlock ≠ x'.ownBlock)
    (hg : w.grownBy w1 h.ownBlock) (hrow : w1.ownsRow B 3 1 h' (g.length + 1) (g.map (Value.int .i64) ++ [.int .i64 k])) (hat : h'.ownBlock = h.ownBlock ∨ h'.ownBlock = some w.heap.size) (hm : m = gs.length) :
    Outs B (w1.setCell ⟨g0, m, none⟩ h') (.slice (some ⟨g0, 0, none⟩) (gs.length + 1) cap) (gs ++ [g ++ [k]]) := by
  subst hm
  have hl : hs.length = gs.length := by have := h1.1; simp at this; omega
  have hgl : (hs ++ [h])[gs.length]? = some h := by rw [List.getElem?_append_right (by omega), hl, Nat.sub_self]; rfl
  have hgg : (gs ++ [g])[gs.length]? = some g := by rw [List.getElem?_append_right (by omega), Nat.sub_self]; rfl
  obtain ⟨hgne, hgrow⟩ := h2 _ _ _ hgl hgg
  have hgp : 0 < g.length := List.length_pos_iff.2 hgne
  have hne : h.ownBlock ≠ some g0 := row_ne hgrow h1 (by decide) hgp
  have h1' := h1.kept hg (.inr fun e => hne e.symm)
  obtain ⟨h1s, hset⟩ := h1'.stored gs.length h'
  have e1 : (hs ++ [h]).set gs.length h' = hs ++ [h'] := by rw [← hl]; simp
  rw [e1] at h1s
  have keep : ∀ {x n xs}, 0 < n → w1.ownsRow B 3 1 x n xs → (w1.setCell ⟨g0, gs.length, none⟩ h').ownsRow B 3 1 x n xs := fun {x n xs} hn hr => hr.kept hset (.inr (row_ne hr h1' (by decide) hn))
  have old : ∀ (j : Nat) x, hs[j]? = some x → x.ownBlock ≠ h.ownBlock ∧ ∃ b, x.ownBlock = some b ∧ b < w.heap.size := fun j x hj => by
    have hjl := (List.getElem?_eq_some_iff.1 hj).1
    have hj1 : (hs ++ [h])[j]? = some x := by rw [List.getElem?_append_left hjl]; exact hj
    refine ⟨h3 j gs.length x h hj1 hgl (by omega), ?_⟩
    obtain ⟨r, hr⟩ : ∃ r, (gs ++ [g])[j]? = some r := ⟨_, List.getElem?_eq_getElem (by simp; omega)⟩
    obtain ⟨k1, k2⟩ := h2 j x r hj1 hr
    obtain ⟨b, c0, cur, rfl, _, hb⟩ := row_block k2 (List.length_pos_iff.2 k1)
    exact ⟨b, rfl, (Array.getElem?_eq_some_iff.1 hb).1⟩
  have new : ∀ (j : Nat) x, hs[j]? = some x → x.ownBlock ≠ h'.ownBlock := fun j x hj e => by
    obtain ⟨k1, b, k2, k3⟩ := old j x hj
    rcases hat with h4 | h4
    · exact k1 (e.trans h4)
    · rw [h4, k2] at e; cases e; omega
  have at' : ∀ (j : Nat) x, (hs ++ [h'])[j]? = some x → (j < hs.length ∧ hs[j]? = some x) ∨ (j = hs.length ∧ x = h') := fun j x hj => by
    rcases Nat.lt_or_ge j hs.length with hlt | hge
    · rw [List.getElem?_append_left hlt] at hj; exact .inl ⟨hlt, hj⟩
    · rw [List.getElem?_append_right hge] at hj
      have hj0 := (List.getElem?_eq_some_iff.1 hj).1
      simp only [List.length_singleton] at hj0
      have e1 : j - hs.length = 0 := by omega
      rw [e1] at hj; cases hj
      exact .inr ⟨by omega, rfl⟩
  refine ⟨hs ++ [h'], by simpa using h1s, fun j x r hj hr => ?_, fun j j' x x' hj hj' hne' => ?_⟩
  · rcases at' j x hj with ⟨a1, a2⟩ | ⟨rfl, rfl⟩
    · rw [List.getElem?_append_left (by omega)] at hr
      obtain ⟨k1, k2⟩ := h2 j x r (by rw [List.getElem?_append_left a1]; exact a2) (by rw [List.getElem?_append_left (by omega)]; exact hr)
      exact ⟨k1, keep (List.length_pos_iff.2 k1) (k2.kept hg (.inr (old j x a2).1))⟩
    · rw [hl, List.getElem?_append_right (Nat.le_refl _), Nat.sub_self] at hr
      cases hr
      refine ⟨by simp, keep (by simp) ?_⟩
      simpa using hrow
  · rcases at' j x hj with ⟨a1, a2⟩ | ⟨a1, rfl⟩ <;> rcases at' j' x' hj' with ⟨b1, b2⟩ | ⟨b1, rfl⟩
    · exact h3 j j' x x' (by rw [List.getElem?_append_left a1]; exact a2) (by rw [List.getElem?_append_left b1]; exact b2) hne'
    · exact new j x a2
    · exact fun e => new j' x' b2 e.symm
    · omega
/-- What the loop keeps of its numbers. -/
theorem refTo_ok (l : List Place) (t : List Bool) : ∀ k, k ≤ l.length → ((refTo l t k).2 = -1 ∨ ∃ m : Nat, (refTo l t k).2 = m ∧ m < k ∧ (refTo l t k).1 ≠ []) ∧ (refTo l t k).1.length ≤ k ∧ ∀ g ∈ (refTo l t k).1, g ≠ [] ∧ g.length ≤ k
  | 0, _ => ⟨.inl rfl, Nat.le_refl _, fun g hg => by cases hg⟩
  | k + 1, hk => by
    obtain ⟨h1, h2, h3⟩ := refTo_ok l t k (by omega)
    obtain ⟨p, hp⟩ : ∃ p, l[k]? = some p := ⟨_, List.getElem?_eq_getElem (by omega)⟩
    rw [refTo, refStep, hp]
    generalize refTo l t k = s at h1 h2 h3
    obtain ⟨gs, n⟩ := s
    dsimp only at h1 h2 h3 ⊢
    have h3' : ∀ g ∈ gs, g ≠ [] ∧ g.length ≤ k + 1 := fun g hg => ⟨(h3 g hg).1, by have := (h3 g hg).2; omega⟩
    split
    · refine ⟨?_, by dsimp only; omega, h3'⟩
      rcases h1 with h1 | ⟨m, a, b, c⟩
      · exact .inl h1
      · exact .inr ⟨m, a, by omega, c⟩
    · split
      · exact ⟨.inl rfl, by dsimp only; omega, h3'⟩
      · split
        · rename_i hl
          rw [linked, Bool.and_eq_true, decide_eq_true_eq] at hl
          have hne : gs ≠ [] := by
            rcases h1 with h1 | ⟨m, a, b, c⟩
            · omega
            · exact c
          obtain ⟨hs, g, rfl⟩ : ∃ hs g, gs = hs ++ [g] := by
            rcases List.eq_nil_or_concat gs with h | ⟨hs, g, h⟩
            · exact absurd h hne
            · exact ⟨hs, g, by simpa using h⟩
          refine ⟨.inr ⟨k, rfl, by omega, by simp⟩, by simp at h2 ⊢; omega, fun g' hg' => ?_⟩
          have e1 : (hs ++ [g]).dropLast = hs := by simp
          have e2 : (hs ++ [g]).getLastD [] = g := by simp
          dsimp only at hg'
          rw [e1, e2] at hg'
          rcases List.mem_append.1 hg' with hg' | hg'
          · exact h3' g' (List.mem_append_left _ hg')
          · rw [List.mem_singleton.1 hg']
            have := (h3 g (by simp)).2
            exact ⟨by simp, by simp; omega⟩
        · refine ⟨.inr ⟨k, rfl, by omega, by simp⟩, by simp; omega, fun g' hg' => ?_⟩
          rcases List.mem_append.1 hg' with hg' | hg'
          · exact h3' g' hg'
          · rw [List.mem_singleton.1 hg']; exact ⟨by simp, by simp⟩
end Go.SX.Runs
