/-
  Runs: arguments as data.
-/
import Derived.Test.YtlahdopmiplnoaaYR17
import Derived.Test.YtlahdopmiplnoaaRows
import Derived.ProofKit
import Derived.Deep.Slices
import Derived.Deep.Grids
set_option linter.unusedSimpArgs false
set_option linter.unusedVariables false
set_option linter.unusedSectionVars false
namespace Go.SX.Runs
open Go Go.Proofs Go.ChangeShapes Go.WideShapes Go.RowKit

def SeatOk (p : Place) : Prop := -9223372036854775808 ≤ p.seat ∧ p.seat ≤ 9223372036854775807
theorem laidOut : laidOutB Try.prog = true := by kernel_rfl
theorem ownN : ownKnob Try.prog.godebug = none := by kernel_rfl
def memF (w : World) : Fz := fun b => w.heap[b]?
def cx0 (w : World) : Cx := { θ := fun _ => .bool false, F := memF w, N := 0 }
theorem sat0 (w : World) : Sat (cx0 w) [] w :=
  ⟨rfl, fun r x hx => by simp at hx, fun r s x y b hx => by simp at hx, fun r x b hx => by simp at hx, fun b o h => h, fun _ => rfl⟩

section
variable {H : Type} {enc : TypeId × Value → H} {w : World} {ps : List MemPlace} {d : DataW H}

/-- The cells of a slice, by index, as data. -/
theorem rep_of {a : Addr} {len cap sz : Nat} {z : Nat → Nat → Value} {es : List (List D)} (hlen : es.length = len) (hcap : len ≤ cap) (hsz : ∀ (i : Nat) ds, es[i]? = some ds → ds.length = sz)
    (hpos : 0 < sz) (hc : ∀ i j, i < len → j < sz → w.cell? (a.add (i * sz + j)) = some (z i j)) (hz : ∀ (i j : Nat) ds d, es[i]? = some ds → ds[j]? = some d → Rep (memF w) (z i j) d) : Rep (memF w) (.slice (some a) len cap) (.sl es) := by
  by_cases h0 : len = 0
  · subst h0
    have : es = [] := List.eq_nil_of_length_eq_zero hlen
    subst this
    exact .nil _ _ (fun h => by cases h)
  · obtain ⟨b, off, sp⟩ := a
    have h1 := hc 0 0 (by omega) hpos
    have hsp : sp = none := by
      unfold World.cell? at h1
      have e : (⟨b, off, sp⟩ : Addr).add (0 * sz + 0) = ⟨b, off, sp⟩ := by simp [Addr.add]
      rw [e] at h1
      split at h1
      · cases sp with
        | none => rfl
        | some x => simp at h1
      · cases h1
    subst hsp
    obtain ⟨c, e, fr, hb⟩ : ∃ c e fr, w.heap[b]? = some (.cells c e fr) := by
      rw [add_none] at h1
      unfold World.cell? at h1
      split at h1
      · rename_i c e fr hb; exact ⟨c, e, fr, hb⟩
      · cases h1
    subst hlen
    refine .sl b off cap c e fr es sz z hb hcap hsz (fun i ds j d hi hj => ?_) (fun i ds j d hi hj => hz i j ds d hi hj)
    have hil := (List.getElem?_eq_some_iff.1 hi).1
    have hjl : j < sz := by rw [← hsz i ds hi]; exact (List.getElem?_eq_some_iff.1 hj).1
    have := hc i j hil hjl
    rw [add_none] at this
    simp only [World.cell?, hb, Option.isSome_none, Bool.false_eq_true, if_false] at this
    rw [← this]; congr 1; omega

theorem openInts {v : Value} (hv : ∃ a len cap, v = .slice a len cap) (h : DataW.Trod enc Try.prog w 0 (fun _ => true) true 24 v d ps) : ∃ l : List Int, Rep (memF w) v (.sl (l.map dI)) := by
  obtain ⟨a0, len0, cap0, rfl⟩ := hv
  obtain ⟨fuel, h⟩ := h
  rcases open_ints Try.underlying24 Try.underlying3 (by kernel_rfl) h with ⟨hcs, _⟩ | ⟨a, len, cap, zs, hcs, _, hl, hm, hz, _, hcell, _⟩
  · simp [Value.cells] at hcs
    obtain ⟨rfl, rfl, rfl⟩ := hcs
    exact ⟨[], .nil _ _ (fun _ => rfl)⟩
  · simp [Value.cells] at hcs
    obtain ⟨rfl, rfl, rfl⟩ := hcs
    simp only [if_true] at hz
    refine ⟨zs.take len0, rep_of (sz := 1) (z := fun i _ => .int .i64 (zs.getD i 0)) (by simp; omega) hl (fun i ds hi => ?_) (by omega) (fun i j hi hj => ?_) (fun i j ds d hi hj => ?_)⟩
    · rw [List.getElem?_map, Option.map_eq_some_iff] at hi
      obtain ⟨x, _, rfl⟩ := hi; rfl
    · have : i * 1 + j = i := by omega
      rw [this]; exact hcell i (by omega)
    · rw [List.getElem?_map, Option.map_eq_some_iff] at hi
      obtain ⟨x, hx, rfl⟩ := hi
      have hil := (List.getElem?_eq_some_iff.1 hx).1
      rw [List.getElem?_take, if_pos (by simp at hil; omega)] at hx
      match j, hj with
      | 0, hj =>
        cases hj
        simp only [List.getD_eq_getElem?_getD, hx, Option.getD_some]
        exact .val _ rfl
      | j + 1, hj => simp [dI] at hj

theorem openBools {v : Value} (hv : ∃ a len cap, v = .slice a len cap) (h : DataW.Trod enc Try.prog w 0 (fun _ => true) true 23 v d ps) : ∃ l : List Bool, Rep (memF w) v (.sl (l.map dB)) := by
  obtain ⟨a0, len0, cap0, rfl⟩ := hv
  obtain ⟨fuel, h⟩ := h
  rcases Deep.open_slice1 Try.underlying23 (by kernel_rfl) h with ⟨hcs, _⟩ | ⟨a, len, cap, m, n, V, Dd, Pl, hcs, _, hl, hm, hmm, _, hcell⟩
  · simp [Value.cells] at hcs
    obtain ⟨rfl, rfl, rfl⟩ := hcs
    exact ⟨[], .nil _ _ (fun _ => rfl)⟩
  · simp [Value.cells] at hcs
    obtain ⟨rfl, rfl, rfl⟩ := hcs
    simp only [if_true] at hmm
    have hb : ∀ i, i < len0 → ∃ b, V i = .bool b := fun i hi => by
      obtain ⟨b, hb, _⟩ := DataW.trod_bool Try.underlying4 (hcell i (by omega)).2
      exact ⟨b, by simpa using hb⟩
    obtain ⟨z, hz⟩ := Deep.choose_lt hb
    refine ⟨(List.range len0).map z, rep_of (sz := 1) (z := fun i _ => .bool (z i)) (by simp) hl (fun i ds hi => ?_) (by omega) (fun i j hi hj => ?_) (fun i j ds d hi hj => ?_)⟩
    · rw [List.getElem?_map, Option.map_eq_some_iff] at hi
      obtain ⟨x, _, rfl⟩ := hi; rfl
    · have : i * 1 + j = i := by omega
      rw [this, (hcell i (by omega)).1, hz i hi]
    · rw [List.getElem?_map, Option.map_eq_some_iff] at hi
      obtain ⟨x, hx, rfl⟩ := hi
      rw [List.getElem?_map, Option.map_eq_some_iff] at hx
      obtain ⟨k, hk, rfl⟩ := hx
      have hk : k = i := by
        have := (List.getElem?_eq_some_iff.1 hk).2
        simpa using this.symm
      subst hk
      match j, hj with
      | 0, hj => cases hj; exact .val _ rfl
      | j + 1, hj => simp [dB] at hj

theorem openPlaces {v : Value} (hv : ∃ a len cap, v = .slice a len cap) (h : DataW.Trod enc Try.prog w 0 (fun _ => true) true 22 v d ps) : ∃ l : List Place, Rep (memF w) v (.sl (l.map Place.ds)) ∧ ∀ p ∈ l, SeatOk p := by
  obtain ⟨a0, len0, cap0, rfl⟩ := hv
  obtain ⟨fuel, h⟩ := h
  have c37 : Try.prog.cellsOf 37 = 9 := by kernel_rfl
  have c3 : Try.prog.cellsOf 3 = 1 := by kernel_rfl
  rcases Deep.open_slice Try.underlying22 h with ⟨hcs, _⟩ | ⟨a, len, cap, m, n, Dd, Pl, hcs, _, hl, hm, hmm, _, hcell⟩
  · simp [Value.cells] at hcs
    obtain ⟨rfl, rfl, rfl⟩ := hcs
    exact ⟨[], .nil _ _ (fun _ => rfl), fun p hp => by simp at hp⟩
  · simp [Value.cells] at hcs
    obtain ⟨rfl, rfl, rfl⟩ := hcs
    simp only [if_true] at hmm
    have hb : ∀ i, i < len0 → ∃ f : Nat → Int, ∀ j, j < 9 → w.cell? (a.add (i * 9 + j)) = some (.int .i64 (f j)) ∧ (Lit.int .i64 (f j)).wf = true := fun i hi => by
      obtain ⟨cs', h1, h2⟩ := hcell i (by omega)
      rw [c37] at h1
      obtain ⟨_, hlen, hcl⟩ := World.cells?_some h1
      obtain ⟨xs, k, _, _, _, hxl, hf⟩ := DataW.trod_struct Try.underlying37 h2
      have each : ∀ j, j < 9 → ∃ z : Int, cs'[j]? = some (.int .i64 z) ∧ (Lit.int .i64 z).wf = true := fun j hj => by
        have fld : ∀ (f : Field), f.offset = j → f.type = 3 → (∃ i, (#[] : Array Field).size ≤ i ∧ DataW.trod enc Try.prog w 0 (fun _ => true) true k f.type ((cs'.drop f.offset).take (Try.prog.cellsOf f.type)) = xs[i]? ∧ i < xs.length) → ∃ z : Int, cs'[j]? = some (.int .i64 z) ∧ (Lit.int .i64 z).wf = true := by
          rintro f ho ht ⟨i, _, h5, h6⟩
          rw [List.getElem?_eq_getElem h6, ht, c3, ho] at h5
          obtain ⟨z, hz, _, hwf⟩ := DataW.trod_int Try.underlying3 h5
          refine ⟨z, ?_, hwf⟩
          have h7 : ((cs'.drop j).take 1)[0]? = some (.int .i64 z) := by rw [hz]; rfl
          simpa [List.getElem?_take, List.getElem?_drop] using h7
        match j, hj with
        | 0, _ => exact fld _ rfl rfl ⟨0, Nat.zero_le _, hf 0 _ rfl, by rw [hxl]; decide⟩
        | 1, _ => exact fld _ rfl rfl ⟨1, Nat.zero_le _, hf 1 _ rfl, by rw [hxl]; decide⟩
        | 2, _ => exact fld _ rfl rfl ⟨2, Nat.zero_le _, hf 2 _ rfl, by rw [hxl]; decide⟩
        | 3, _ => exact fld _ rfl rfl ⟨3, Nat.zero_le _, hf 3 _ rfl, by rw [hxl]; decide⟩
        | 4, _ => exact fld _ rfl rfl ⟨4, Nat.zero_le _, hf 4 _ rfl, by rw [hxl]; decide⟩
        | 5, _ => exact fld _ rfl rfl ⟨5, Nat.zero_le _, hf 5 _ rfl, by rw [hxl]; decide⟩
        | 6, _ => exact fld _ rfl rfl ⟨6, Nat.zero_le _, hf 6 _ rfl, by rw [hxl]; decide⟩
        | 7, _ => exact fld _ rfl rfl ⟨7, Nat.zero_le _, hf 7 _ rfl, by rw [hxl]; decide⟩
        | 8, _ => exact fld _ rfl rfl ⟨8, Nat.zero_le _, hf 8 _ rfl, by rw [hxl]; decide⟩
      obtain ⟨f, hf2⟩ := Deep.choose_lt each
      refine ⟨f, fun j hj => ?_⟩
      have := hcl j hj
      rw [Deep.add_add, (hf2 j hj).1] at this
      exact ⟨this, (hf2 j hj).2⟩
    have hb' : ∀ i, i < len0 → ∃ f : Nat → Int, ∀ j, j < 9 → w.cell? (a.add (i * 9 + j)) = some (.int .i64 (f j)) ∧ (Lit.int .i64 (f j)).wf = true := hb
    obtain ⟨z, hz⟩ := Deep.choose_lt hb'
    refine ⟨(List.range len0).map fun i => ⟨z i 0, z i 1, z i 2, z i 3, z i 4, z i 5, z i 6, z i 7, z i 8⟩, rep_of (sz := 9) (z := fun i j => .int .i64 (z i j)) (by simp) hl (fun i ds hi => ?_) (by omega) (fun i j hi hj => (hz i hi j hj).1) (fun i j ds d hi hj => ?_), fun p hp => ?_⟩
    rotate_right
    · rw [List.mem_map] at hp
      obtain ⟨i, hi, rfl⟩ := hp
      have := (hz i (List.mem_range.1 hi) 4 (by omega)).2
      simp only [Lit.wf, Bool.and_eq_true, decide_eq_true_eq] at this
      simpa [SeatOk, IntKind.min, IntKind.max, IntKind.signed, IntKind.bits] using this
    · rw [List.getElem?_map, Option.map_eq_some_iff] at hi
      obtain ⟨x, _, rfl⟩ := hi; rfl
    · rw [List.getElem?_map, Option.map_eq_some_iff] at hi
      obtain ⟨x, hx, rfl⟩ := hi
      rw [List.getElem?_map, Option.map_eq_some_iff] at hx
      obtain ⟨k, hk, rfl⟩ := hx
      have hk : k = i := by
        have := (List.getElem?_eq_some_iff.1 hk).2
        simpa using this.symm
      subst hk
      match j, hj with
      | 0, hj => cases hj; exact .val _ rfl
      | 1, hj => cases hj; exact .val _ rfl
      | 2, hj => cases hj; exact .val _ rfl
      | 3, hj => cases hj; exact .val _ rfl
      | 4, hj => cases hj; exact .val _ rfl
      | 5, hj => cases hj; exact .val _ rfl
      | 6, hj => cases hj; exact .val _ rfl
      | 7, hj => cases hj; exact .val _ rfl
      | 8, hj => cases hj; exact .val _ rfl
      | j + 9, hj => simp [Place.ds] at hj

end

/-- What a law that answers true leaves behind. -/
theorem lawCalls {f : FuncId} {args : List SV} {us : List Value} {w : World} (h : Fn1 Try.prog f args (.b true)) (hr : RelL (cx0 w) args us) :
    Calls Try.prog f us.toArray w fun e w' => e = .returned (.bool true) ∧ Below w.heap.size w w' := by
  refine (h.2 (cx0 w) w us (sat0 w) hr).mono ?_
  rintro e w' ⟨c', own', sv, u, rfl, h1, _, _, h5, rfl⟩
  obtain rfl := h1.of_val
  exact ⟨rfl, h5.os, h5.tape, h5.output, h5.size, fun b hb => h5.keep b hb (fun ⟨r, x, hx, _⟩ => by simp at hx)⟩

end Go.SX.Runs
/-
  Runs: the plain law of rows and runs.
-/
namespace Go.SX.Runs
open Go Go.Proofs
/-- One seat comes before another one. -/
def KB (a b : Place) : Prop := a.level < b.level ∨ (a.level = b.level ∧ (a.block < b.block ∨ (a.block = b.block ∧ (a.row < b.row ∨ (a.row = b.row ∧ a.seat < b.seat)))))
theorem beforeP_iff (a b : Place) : beforeP a b = true ↔ KB a b := by
  simp only [beforeP, KB]
  repeat' split
  all_goals simp only [decide_eq_true_eq]
  all_goals omega
theorem orderP_lt (a b : Place) : orderP a b < 0 ↔ KB a b := by
  simp only [orderP, orI, cmpI, KB]
  repeat' split
  all_goals omega
theorem orderP_eq (a b : Place) : orderP a b = 0 ↔ a.level = b.level ∧ a.block = b.block ∧ a.row = b.row ∧ a.seat = b.seat := by
  simp only [orderP, orI, cmpI]
  repeat' split
  all_goals omega
theorem KB.trans {a b c : Place} (h : KB a b) (k : KB b c) : KB a c := by
  simp only [KB] at *; omega
theorem adj_pw {α : Type} {r : α → α → Bool} (ht : ∀ a b c, r a b = true → r b c = true → r a c = true) : ∀ {l : List α}, adj r l = true → l.Pairwise (fun a b => r a b = true)
  | [], _ => .nil
  | [a], _ => by simp
  | a :: b :: l, h => by
    simp only [adj, Bool.and_eq_true] at h
    have ih := adj_pw ht h.2
    refine List.pairwise_cons.2 ⟨fun x hx => ?_, ih⟩
    rcases List.mem_cons.1 hx with rfl | hx
    · exact h.1
    · exact ht _ _ _ h.1 ((List.pairwise_cons.1 ih).1 x hx)
theorem seats_pw {l : List Place} (h : orderedP l = true) : (seatsL l).Pairwise fun a b => KB a.1 b.1 := by
  have := adj_pw (r := fun a b : Place × Nat => beforeP a.1 b.1) (fun a b c h1 h2 => by rw [beforeP_iff] at *; exact h1.trans h2) h
  exact this.imp fun h => (beforeP_iff _ _).1 h
theorem seats_ok {l : List Place} : seatsOk l = orderedP l := by
  have : (fun a b : Place × Nat => decide (orderP a.1 b.1 < 0)) = fun a b => beforeP a.1 b.1 := by
    funext a b
    rw [Bool.eq_iff_iff, decide_eq_true_eq, orderP_lt, beforeP_iff]
  rw [seatsOk, orderedP, this]
theorem allL_eq {l : List Place} (h : orderedP l = true) : allL l = seatsL l := by rw [allL, seats_ok, h, if_pos rfl]
theorem seats_iff {l : List Place} {p : Place} {j : Nat} : (p, j) ∈ seatsL l ↔ l[j]? = some p ∧ isSeat p = true := by
  rw [seatsL, List.mem_filter, List.mem_zipIdx_iff_getElem?]
theorem seats_idx (l : List Place) : ((seatsL l).map (·.2)).Pairwise (· < ·) := by
  have h : (l.zipIdx.map (·.2)).Pairwise (· < ·) := by
    rw [show l.zipIdx.map (·.2) = List.range' 0 l.length from List.zipIdx_map_snd 0 l]; exact List.pairwise_lt_range'
  exact h.sublist ((List.filter_sublist (l := l.zipIdx)).map _)
theorem freeL_mem {t : List Bool} {S : List (Place × Nat)} {x : Place × Nat} : x ∈ freeL t S ↔ x ∈ S ∧ takenL t x.2 = false := by
  rw [freeL, List.mem_filter]; simp
theorem freeL_sub (t : List Bool) (S : List (Place × Nat)) : (freeL t S).Sublist S := List.filter_sublist

/- The groups. -/
structure Div (F : List (Place × Nat)) (k : Nat) (gs : List (List (Place × Nat))) (from' : Nat) : Prop where
  le : from' ≤ k
  flat : gs.flatten = F.take from'
  ne : ∀ g ∈ gs, g ≠ []
  on : ∀ g ∈ gs, ∀ (i : Nat) a b, g[i]? = some a → g[i + 1]? = some b → follB b a = true
  no : ∀ i, from' ≤ i → i < k → cutAt F i = false
  last : ∀ g ∈ gs, ∃ i, g.getLast? = F[i]? ∧ cutAt F i = true ∧ i < F.length
theorem cutAt_on {F : List (Place × Nat)} {i : Nat} {a b : Place × Nat} (h : cutAt F i = false) (ha : F[i]? = some a) (hb : F[i + 1]? = some b) : follB b a = true := by
  simp only [cutAt, hb, ha] at h
  simpa using h
theorem div_to (F : List (Place × Nat)) : ∀ k, k ≤ F.length → Div F k (divTo F k).1 (divTo F k).2
  | 0, _ => ⟨Nat.le_refl _, rfl, fun g hg => by simp [divTo] at hg, fun g hg => by simp [divTo] at hg, fun i h1 h2 => by omega, fun g hg => by simp [divTo] at hg⟩
  | k + 1, hk => by
    have ih := div_to F k (by omega)
    rw [divTo_succ, divStep]
    generalize hd : divTo F k = d at ih
    obtain ⟨gs, fr⟩ := d
    dsimp only at ih ⊢
    have hle := ih.le
    split
    · rename_i hc
      have hge : ∀ i, ((F.take (k + 1)).drop fr)[i]? = if fr + i < k + 1 then F[fr + i]? else none := fun i => by
        rw [List.getElem?_drop, List.getElem?_take]
      refine ⟨Nat.le_refl _, ?_, ?_, ?_, fun i h1 h2 => by omega, ?_⟩
      · rw [List.flatten_append, ih.flat]
        simp only [List.flatten_cons, List.flatten_nil, List.append_nil]
        have : F.take fr = (F.take (k + 1)).take fr := by rw [List.take_take, Nat.min_eq_left (by omega)]
        rw [this, List.take_append_drop]
      · intro g hg
        rcases List.mem_append.1 hg with h | h
        · exact ih.ne g h
        · rw [List.mem_singleton.1 h]
          intro e
          have := congrArg List.length e
          simp at this; omega
      · intro g hg i a b ha hb
        rcases List.mem_append.1 hg with h | h
        · exact ih.on g h i a b ha hb
        · rw [List.mem_singleton.1 h, hge] at ha hb
          split at hb
          · rename_i h2
            rw [if_pos (by omega)] at ha
            exact cutAt_on (ih.no (fr + i) (by omega) (by omega)) ha hb
          · cases hb
      · intro g hg
        rcases List.mem_append.1 hg with h | h
        · exact ih.last g h
        · rw [List.mem_singleton.1 h]
          refine ⟨k, ?_, hc, by omega⟩
          rw [List.getLast?_eq_getElem?, hge]
          have hl : ((F.take (k + 1)).drop fr).length = k + 1 - fr := by rw [List.length_drop, List.length_take]; omega
          rw [hl, if_pos (by omega)]
          congr 1; omega
    · rename_i hc
      refine ⟨by omega, ih.flat, ih.ne, ih.on, fun i h1 h2 => ?_, ih.last⟩
      by_cases h : i = k
      · subst h; simpa using hc
      · exact ih.no i h1 (by omega)
structure Groups (F : List (Place × Nat)) : Prop where
  flat : (divideL F).flatten = F
  ne : ∀ g ∈ divideL F, g ≠ []
  on : ∀ g ∈ divideL F, ∀ (i : Nat) a b, g[i]? = some a → g[i + 1]? = some b → follB b a = true
  last : ∀ g ∈ divideL F, ∃ i, g.getLast? = F[i]? ∧ cutAt F i = true ∧ i < F.length
theorem groups (F : List (Place × Nat)) : Groups F := by
  have h := div_to F F.length (Nat.le_refl _)
  refine ⟨?_, h.ne, h.on, h.last⟩
  show (divTo F F.length).1.flatten = F
  rw [h.flat]
  have hle := h.le
  rcases Nat.lt_or_ge (divTo F F.length).2 F.length with hlt | hge
  · have := h.no (F.length - 1) (by omega) (by omega)
    have h2 : F[F.length - 1 + 1]? = none := List.getElem?_eq_none (by omega)
    simp only [cutAt, h2] at this
    cases this
  · exact List.take_of_length_le hge

theorem freeI_flat {l : List Place} (t : List Bool) (ho : orderedP l = true) : (freeI l t).flatten = (freeL t (seatsL l)).map fun x => (x.2 : Int) := by
  rw [freeI, allL_eq ho]
  have : ((divideL (freeL t (seatsL l))).map runI).flatten = (divideL (freeL t (seatsL l))).flatten.map fun x => (x.2 : Int) := by
    rw [List.map_flatten]; rfl
  rw [this, (groups _).flat]
theorem nextP_iff (a b : Place) : nextP a b = true ↔ 0 ≤ a.row ∧ a.level = b.level ∧ a.block = b.block ∧ a.row = b.row ∧ a.seat < b.seat ∧ b.seat = IntKind.i64.wrap (a.seat + 1) := by
  simp only [nextP, Bool.and_eq_true, decide_eq_true_eq]
theorem follB_iff (b a : Place × Nat) : follB b a = true ↔ b.1.level = a.1.level ∧ b.1.block = a.1.block ∧ b.1.row = a.1.row ∧ b.1.seat = IntKind.i64.wrap (a.1.seat + 1) := by
  simp only [follB, decide_eq_true_eq, orderP_eq, Place.next]
theorem next_kb {a b : Place} (h : nextP a b = true) : KB a b := by
  rw [nextP_iff] at h; simp only [KB]; omega
theorem wrap_next {s : Int} (h1 : -9223372036854775808 ≤ s) (h2 : s ≤ 9223372036854775807) (h : s < IntKind.i64.wrap (s + 1)) : IntKind.i64.wrap (s + 1) = s + 1 := by
  by_cases hs : s = 9223372036854775807
  · subst hs; exact absurd h (by decide)
  · exact wr64 (by omega) (by omega)
/-- Nobody sits between two neighbours. -/
theorem next_none {a b c : Place} (ha : SeatOk a) (h : nextP a c = true) (h1 : KB a b) (h2 : KB b c) : False := by
  rw [nextP_iff] at h
  obtain ⟨h3, h4, h5, h6, h7, h8⟩ := h
  have := wrap_next ha.1 ha.2 (by omega)
  simp only [KB] at h1 h2
  omega
theorem run_mem {l : List Place} {t : List Bool} (ho : orderedP l = true) {r : List Int} (hr : r ∈ freeI l t) : ∃ g ∈ divideL (freeL t (seatsL l)), r = runI g := by
  rw [freeI, allL_eq ho, List.mem_map] at hr
  obtain ⟨g, hg, rfl⟩ := hr
  exact ⟨g, hg, rfl⟩
theorem grp_mem {F : List (Place × Nat)} {g : List (Place × Nat)} (hg : g ∈ divideL F) {x : Place × Nat} (hx : x ∈ g) : x ∈ F := by
  rw [← (groups F).flat]; exact List.mem_flatten.2 ⟨g, hg, hx⟩
theorem grp_sub {F : List (Place × Nat)} {g : List (Place × Nat)} (hg : g ∈ divideL F) : g.Sublist F := by
  have := List.sublist_flatten_of_mem hg
  rwa [(groups F).flat] at this
/-- What a run says of an index in it. -/
theorem run_get {l : List Place} {t : List Bool} (_ho : orderedP l = true) {r : List Int} {g : List (Place × Nat)} (hg : g ∈ divideL (freeL t (seatsL l))) (hr : r = runI g) {k : Nat} {a : Int} (ha : r[k]? = some a) :
    ∃ p j, g[k]? = some (p, j) ∧ a = (j : Int) ∧ l[j]? = some p ∧ isSeat p = true ∧ takenL t j = false := by
  rw [hr, runI, List.getElem?_map, Option.map_eq_some_iff] at ha
  obtain ⟨⟨p, j⟩, h1, rfl⟩ := ha
  have h2 := freeL_mem.1 (grp_mem hg (List.mem_of_getElem? h1))
  have h3 := seats_iff.1 h2.1
  exact ⟨p, j, h1, rfl, h3.1, h3.2, h2.2⟩
theorem count_idx {L : List Nat} (h : L.Pairwise (· < ·)) (n : Nat) : (L.map fun (j : Nat) => (j : Int)).count (n : Int) = if n ∈ L then 1 else 0 := by
  induction L with
  | nil => rfl
  | cons a L ih =>
    obtain ⟨h1, h2⟩ := List.pairwise_cons.1 h
    rw [List.map_cons, List.count_cons, ih h2]
    by_cases hn : n = a
    · subst hn
      have : ¬ n ∈ L := fun hm => by have := h1 n hm; omega
      simp [this]
    · have h3 : ¬ ((a : Int) = (n : Int)) := by omega
      simp [hn, h3]
theorem free_idx (l : List Place) (t : List Bool) : ((freeL t (seatsL l)).map (·.2)).Pairwise (· < ·) := (seats_idx l).sublist ((freeL_sub t _).map _)
theorem run_count {l : List Place} (t : List Bool) (ho : orderedP l = true) (n : Nat) : (freeI l t).flatten.count (n : Int) = if ∃ p, l[n]? = some p ∧ isSeat p = true ∧ takenL t n = false then 1 else 0 := by
  rw [freeI_flat t ho]
  have e : ((freeL t (seatsL l)).map fun x => (x.2 : Int)) = ((freeL t (seatsL l)).map (·.2)).map fun (j : Nat) => (j : Int) := by rw [List.map_map]; rfl
  rw [e, count_idx (free_idx l t)]
  have : n ∈ (freeL t (seatsL l)).map (·.2) ↔ ∃ p, l[n]? = some p ∧ isSeat p = true ∧ takenL t n = false := by
    rw [List.mem_map]
    constructor
    · rintro ⟨⟨p, j⟩, h, rfl⟩
      have h2 := freeL_mem.1 h
      have h3 := seats_iff.1 h2.1
      exact ⟨p, h3.1, h3.2, h2.2⟩
    · rintro ⟨p, h1, h2, h3⟩
      exact ⟨(p, n), freeL_mem.2 ⟨seats_iff.2 ⟨h1, h2⟩, h3⟩, rfl⟩
  simp only [this]
theorem takenL_nil (i : Int) : takenL [] i = false := by simp [takenL]
theorem freeL_nil (S : List (Place × Nat)) : freeL [] S = S := freeL_all fun _ _ => takenL_nil _
/-- Consecutive seats of a run are neighbours. -/
theorem run_next {l : List Place} {t : List Bool} (ho : orderedP l = true) {r : List Int} (hr : r ∈ freeI l t) {k : Nat} {a b : Int} {p q : Place} (ha : r[k]? = some a) (hb : r[k + 1]? = some b) (hp : l[a.toNat]? = some p) (hq : l[b.toNat]? = some q) : nextP p q = true := by
  obtain ⟨g, hg, hrg⟩ := run_mem ho hr
  obtain ⟨p', j, h1, rfl, h2, h3, _⟩ := run_get ho hg hrg ha
  obtain ⟨q', j', k1, rfl, k2, k3, _⟩ := run_get ho hg hrg hb
  simp only [Int.toNat_natCast] at hp hq
  rw [h2] at hp; cases hp
  rw [k2] at hq; cases hq
  have hf := (groups _).on g hg k _ _ h1 k1
  rw [follB_iff] at hf
  have hpw := ((seats_pw ho).sublist (freeL_sub t _)).sublist (grp_sub hg)
  have hk := List.pairwise_iff_getElem.1 hpw k (k + 1) (List.getElem?_eq_some_iff.1 h1).1 (List.getElem?_eq_some_iff.1 k1).1 (by omega)
  rw [(List.getElem?_eq_some_iff.1 h1).2, (List.getElem?_eq_some_iff.1 k1).2] at hk
  rw [nextP_iff]
  simp only [isSeat, decide_eq_true_eq] at h3
  simp only [KB] at hk
  dsimp only at hf hk
  omega
/-- Two seats of the list that are neighbours stand side by side among all. -/
theorem next_side {l : List Place} (hok : ∀ p ∈ l, SeatOk p) (ho : orderedP l = true) {i : Nat} {p q : Place} {a n : Nat} (hi : (seatsL l)[i]? = some (p, a)) (hq : l[n]? = some q) (h : nextP p q = true) : (seatsL l)[i + 1]? = some (q, n) := by
  have hpm := seats_iff.1 (List.mem_of_getElem? hi)
  have hqs : isSeat q = true := by
    rw [nextP_iff] at h; simp only [isSeat, decide_eq_true_eq]; omega
  obtain ⟨j, hj, hje⟩ := List.getElem_of_mem (seats_iff.2 ⟨hq, hqs⟩)
  have hpw := List.pairwise_iff_getElem.1 (seats_pw ho)
  obtain ⟨hil, hie⟩ := List.getElem?_eq_some_iff.1 hi
  have hkb := next_kb h
  have hij : i < j := by
    rcases Nat.lt_trichotomy i j with h1 | h1 | h1
    · exact h1
    · subst h1; rw [hie] at hje; cases hje; simp only [KB] at hkb; omega
    · have := hpw j i hj hil h1
      rw [hje, hie] at this
      simp only [KB] at hkb this; omega
  rcases Nat.lt_or_ge (i + 1) j with h1 | h1
  · exfalso
    have k1 := hpw i (i + 1) hil (by omega) (by omega)
    have k2 := hpw (i + 1) j (by omega) hj h1
    rw [hie] at k1
    rw [hje] at k2
    exact next_none (hok p (List.mem_of_getElem? hpm.1)) h k1 k2
  · have : j = i + 1 := by omega
    subst this
    rw [List.getElem?_eq_getElem hj, hje]
theorem rowsOk {l : List Place} (hok : ∀ p ∈ l, SeatOk p) (ho : orderedP l = true) : RowsOk l (freeI l []) where
  ne r hr := freeI_ne hr
  inb r hr n hn := by
    obtain ⟨g, hg, hrg⟩ := run_mem ho hr
    obtain ⟨k, hk⟩ := List.getElem?_of_mem hn
    obtain ⟨p, j, _, rfl, h2, _, _⟩ := run_get ho hg hrg hk
    have := (List.getElem?_eq_some_iff.1 h2).1
    omega
  nxt r hr k a b p q ha hb hp hq := run_next ho hr ha hb hp hq
  last r hr a p q n ha hp hq := by
    obtain ⟨g, hg, hrg⟩ := run_mem ho hr
    obtain ⟨p', j, h1, rfl, h2, h3, _⟩ := run_get ho hg hrg ha
    simp only [Int.toNat_natCast] at hp
    rw [h2] at hp; cases hp
    obtain ⟨i, hi, hc, hil⟩ := (groups _).last g hg
    rw [freeL_nil] at hi hc hil
    have hgl : g.getLast? = some (p, j) := by
      rw [List.getLast?_eq_getElem?]
      have : r.length = g.length := by rw [hrg, runI, List.length_map]
      rw [← this]; exact h1
    rw [hgl] at hi
    cases hnx : nextP p q with
    | false => rfl
    | true =>
      exfalso
      have hs := next_side hok ho hi.symm hq hnx
      have hf : follB (q, n) (p, j) = true := by
        rw [follB_iff]
        rw [nextP_iff] at hnx
        dsimp only; omega
      simp only [cutAt, hs, ← hi, hf] at hc
      cases hc
  cnt n p hp := by
    rw [run_count [] ho n]
    have e : (∃ p, l[n]? = some p ∧ isSeat p = true ∧ takenL [] n = false) ↔ 0 ≤ p.row := by
      constructor
      · rintro ⟨p', h1, h2, _⟩
        rw [hp] at h1; cases h1
        simpa [isSeat] using h2
      · intro h; exact ⟨p, hp, by simpa [isSeat] using h, takenL_nil _⟩
    simp only [e]
    by_cases h : 0 ≤ p.row <;> simp [h]
end Go.SX.Runs
