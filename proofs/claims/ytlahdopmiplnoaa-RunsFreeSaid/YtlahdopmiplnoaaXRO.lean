/-
  Runs: arguments as data.
-/
import Derived.Test.YtlahdopmiplnoaaXR17
import Derived.Test.YtlahdopmiplnoaaRows
import Derived.ProofKit
import Derived.Deep.Slices
import Derived.Deep.Grids
namespace Go.SX.Runs
open Go Go.Proofs Go.ChangeShapes Go.WideShapes Go.RowKit

def SeatOk (p : Place) : Prop := -9223372036854775808 ≤ p.seat ∧ p.seat ≤ 9223372036854775807
theorem laidOut : laidOutB Try.prog = true := by kernel_rfl
theorem ownN : ownKnob Try.prog.godebug = none := by kernel_rfl
def memF (w : World) : Fz := fun b => w.heap[b]?
def cx0 (w : World) : Cx := { θ := fun _ => .bool false, F := memF w, N := 0 }
theorem sat0 (w : World) : Sat (cx0 w) [] w :=
  ⟨rfl, fun r x hx => by simp at hx, fun r s x y b hx => by simp at hx, fun r x b hx => by simp at hx, fun b o h => h, fun _ => rfl⟩

section
variable {H : Type} {enc : TypeId × Value → H} {w : World} {ps : List MemPlace} {d : DataW H}

/-- The cells of a slice, by index, as data. -/
theorem rep_of {a : Addr} {len cap sz : Nat} {z : Nat → Nat → Value} {es : List (List D)} (hlen : es.length = len) (hcap : len ≤ cap) (hsz : ∀ (i : Nat) ds, es[i]? = some ds → ds.length = sz)
    (hpos : 0 < sz) (hc : ∀ i j, i < len → j < sz → w.cell? (a.add (i * sz + j)) = some (z i j)) (hz : ∀ (i j : Nat) ds d, es[i]? = some ds → ds[j]? = some d → Rep (memF w) (z i j) d) : Rep (memF w) (.slice (some a) len cap) (.sl es) := by
  by_cases h0 : len = 0
  · subst h0
    have : es = [] := List.eq_nil_of_length_eq_zero hlen
    subst this
    exact .nil _ _ (fun h => by cases h)
  · obtain ⟨b, off, sp⟩ := a
    have h1 := hc 0 0 (by omega) hpos
    have hsp : sp = none := by
      unfold World.cell? at h1
      have e : (⟨b, off, sp⟩ : Addr).add (0 * sz + 0) = ⟨b, off, sp⟩ := by simp [Addr.add]
      rw [e] at h1
      split at h1
      · cases sp with
        | none => rfl
        | some x => simp at h1
      · cases h1
    subst hsp
    obtain ⟨c, e, fr, hb⟩ : ∃ c e fr, w.heap[b]? = some (.cells c e fr) := by
      rw [add_none] at h1
      unfold World.cell? at h1
      split at h1
      · rename_i c e fr hb; exact ⟨c, e, fr, hb⟩
      · cases h1
    subst hlen
    refine .sl b off cap c e fr es sz z hb hcap hsz (fun i ds j d hi hj => ?_) (fun i ds j d hi hj => hz i j ds d hi hj)
    have hil := (List.getElem?_eq_some_iff.1 hi).1
    have hjl : j < sz := by rw [← hsz i ds hi]; exact (List.getElem?_eq_some_iff.1 hj).1
    have := hc i j hil hjl
    rw [add_none] at this
    simp only [World.cell?, hb, Option.isSome_none, Bool.false_eq_true, if_false] at this
    rw [← this]; congr 1; omega

theorem openInts {v : Value} (hv : ∃ a len cap, v = .slice a len cap) (h : DataW.Trod enc Try.prog w 0 (fun _ => true) true 24 v d ps) : ∃ l : List Int, Rep (memF w) v (.sl (l.map dI)) := by
  obtain ⟨a0, len0, cap0, rfl⟩ := hv
  obtain ⟨fuel, h⟩ := h
  rcases open_ints Try.underlying24 Try.underlying3 (by kernel_rfl) h with ⟨hcs, _⟩ | ⟨a, len, cap, zs, hcs, _, hl, hm, hz, _, hcell, _⟩
  · simp [Value.cells] at hcs
    obtain ⟨rfl, rfl, rfl⟩ := hcs
    exact ⟨[], .nil _ _ (fun _ => rfl)⟩
  · simp [Value.cells] at hcs
    obtain ⟨rfl, rfl, rfl⟩ := hcs
    simp only [if_true] at hz
    refine ⟨zs.take len0, rep_of (sz := 1) (z := fun i _ => .int .i64 (zs.getD i 0)) (by simp; omega) hl (fun i ds hi => ?_) (by omega) (fun i j hi hj => ?_) (fun i j ds d hi hj => ?_)⟩
    · rw [List.getElem?_map, Option.map_eq_some_iff] at hi
      obtain ⟨x, _, rfl⟩ := hi; rfl
    · have : i * 1 + j = i := by omega
      rw [this]; exact hcell i (by omega)
    · rw [List.getElem?_map, Option.map_eq_some_iff] at hi
      obtain ⟨x, hx, rfl⟩ := hi
      have hil := (List.getElem?_eq_some_iff.1 hx).1
      rw [List.getElem?_take, if_pos (by simp at hil; omega)] at hx
      match j, hj with
      | 0, hj =>
        cases hj
        simp only [List.getD_eq_getElem?_getD, hx, Option.getD_some]
        exact .val _ rfl
      | j + 1, hj => simp [dI] at hj

theorem openBools {v : Value} (hv : ∃ a len cap, v = .slice a len cap) (h : DataW.Trod enc Try.prog w 0 (fun _ => true) true 23 v d ps) : ∃ l : List Bool, Rep (memF w) v (.sl (l.map dB)) := by
  obtain ⟨a0, len0, cap0, rfl⟩ := hv
  obtain ⟨fuel, h⟩ := h
  rcases Deep.open_slice1 Try.underlying23 (by kernel_rfl) h with ⟨hcs, _⟩ | ⟨a, len, cap, m, n, V, Dd, Pl, hcs, _, hl, hm, hmm, _, hcell⟩
  · simp [Value.cells] at hcs
    obtain ⟨rfl, rfl, rfl⟩ := hcs
    exact ⟨[], .nil _ _ (fun _ => rfl)⟩
  · simp [Value.cells] at hcs
    obtain ⟨rfl, rfl, rfl⟩ := hcs
    simp only [if_true] at hmm
    have hb : ∀ i, i < len0 → ∃ b, V i = .bool b := fun i hi => by
      obtain ⟨b, hb, _⟩ := DataW.trod_bool Try.underlying4 (hcell i (by omega)).2
      exact ⟨b, by simpa using hb⟩
    obtain ⟨z, hz⟩ := Deep.choose_lt hb
    refine ⟨(List.range len0).map z, rep_of (sz := 1) (z := fun i _ => .bool (z i)) (by simp) hl (fun i ds hi => ?_) (by omega) (fun i j hi hj => ?_) (fun i j ds d hi hj => ?_)⟩
    · rw [List.getElem?_map, Option.map_eq_some_iff] at hi
      obtain ⟨x, _, rfl⟩ := hi; rfl
    · have : i * 1 + j = i := by omega
      rw [this, (hcell i (by omega)).1, hz i hi]
    · rw [List.getElem?_map, Option.map_eq_some_iff] at hi
      obtain ⟨x, hx, rfl⟩ := hi
      rw [List.getElem?_map, Option.map_eq_some_iff] at hx
      obtain ⟨k, hk, rfl⟩ := hx
      have hk : k = i := by
        have := (List.getElem?_eq_some_iff.1 hk).2
        simpa using this.symm
      subst hk
      match j, hj with
      | 0, hj => cases hj; exact .val _ rfl
      | j + 1, hj => simp [dB] at hj

theorem openPlaces {v : Value} (hv : ∃ a len cap, v = .slice a len cap) (h : DataW.Trod enc Try.prog w 0 (fun _ => true) true 22 v d ps) : ∃ l : List Place, Rep (memF w) v (.sl (l.map Place.ds)) ∧ ∀ p ∈ l, SeatOk p := by
  obtain ⟨a0, len0, cap0, rfl⟩ := hv
  obtain ⟨fuel, h⟩ := h
  have c37 : Try.prog.cellsOf 37 = 9 := by kernel_rfl
  have c3 : Try.prog.cellsOf 3 = 1 := by kernel_rfl
  rcases Deep.open_slice Try.underlying22 h with ⟨hcs, _⟩ | ⟨a, len, cap, m, n, Dd, Pl, hcs, _, hl, hm, hmm, _, hcell⟩
  · simp [Value.cells] at hcs
    obtain ⟨rfl, rfl, rfl⟩ := hcs
    exact ⟨[], .nil _ _ (fun _ => rfl), fun p hp => by simp at hp⟩
  · simp [Value.cells] at hcs
    obtain ⟨rfl, rfl, rfl⟩ := hcs
    simp only [if_true] at hmm
    have hb : ∀ i, i < len0 → ∃ f : Nat → Int, ∀ j, j < 9 → w.cell? (a.add (i * 9 + j)) = some (.int .i64 (f j)) ∧ (Lit.int .i64 (f j)).wf = true := fun i hi => by
      obtain ⟨cs', h1, h2⟩ := hcell i (by omega)
      rw [c37] at h1
      obtain ⟨_, hlen, hcl⟩ := World.cells?_some h1
      obtain ⟨xs, k, _, _, _, hxl, hf⟩ := DataW.trod_struct Try.underlying37 h2
      have each : ∀ j, j < 9 → ∃ z : Int, cs'[j]? = some (.int .i64 z) ∧ (Lit.int .i64 z).wf = true := fun j hj => by
        have fld : ∀ (f : Field), f.offset = j → f.type = 3 → (∃ i, (#[] : Array Field).size ≤ i ∧ DataW.trod enc Try.prog w 0 (fun _ => true) true k f.type ((cs'.drop f.offset).take (Try.prog.cellsOf f.type)) = xs[i]? ∧ i < xs.length) → ∃ z : Int, cs'[j]? = some (.int .i64 z) ∧ (Lit.int .i64 z).wf = true := by
          rintro f ho ht ⟨i, _, h5, h6⟩
          rw [List.getElem?_eq_getElem h6, ht, c3, ho] at h5
          obtain ⟨z, hz, _, hwf⟩ := DataW.trod_int Try.underlying3 h5
          refine ⟨z, ?_, hwf⟩
          have h7 : ((cs'.drop j).take 1)[0]? = some (.int .i64 z) := by rw [hz]; rfl
          simpa [List.getElem?_take, List.getElem?_drop] using h7
        match j, hj with
        | 0, _ => exact fld _ rfl rfl ⟨0, Nat.zero_le _, hf 0 _ rfl, by rw [hxl]; decide⟩
        | 1, _ => exact fld _ rfl rfl ⟨1, Nat.zero_le _, hf 1 _ rfl, by rw [hxl]; decide⟩
        | 2, _ => exact fld _ rfl rfl ⟨2, Nat.zero_le _, hf 2 _ rfl, by rw [hxl]; decide⟩
        | 3, _ => exact fld _ rfl rfl ⟨3, Nat.zero_le _, hf 3 _ rfl, by rw [hxl]; decide⟩
        | 4, _ => exact fld _ rfl rfl ⟨4, Nat.zero_le _, hf 4 _ rfl, by rw [hxl]; decide⟩
        | 5, _ => exact fld _ rfl rfl ⟨5, Nat.zero_le _, hf 5 _ rfl, by rw [hxl]; decide⟩
        | 6, _ => exact fld _ rfl rfl ⟨6, Nat.zero_le _, hf 6 _ rfl, by rw [hxl]; decide⟩
        | 7, _ => exact fld _ rfl rfl ⟨7, Nat.zero_le _, hf 7 _ rfl, by rw [hxl]; decide⟩
        | 8, _ => exact fld _ rfl rfl ⟨8, Nat.zero_le _, hf 8 _ rfl, by rw [hxl]; decide⟩
      obtain ⟨f, hf2⟩ := Deep.choose_lt each
      refine ⟨f, fun j hj => ?_⟩
      have := hcl j hj
      rw [Deep.add_add, (hf2 j hj).1] at this
      exact ⟨this, (hf2 j hj).2⟩
    have hb' : ∀ i, i < len0 → ∃ f : Nat → Int, ∀ j, j < 9 → w.cell? (a.add (i * 9 + j)) = some (.int .i64 (f j)) ∧ (Lit.int .i64 (f j)).wf = true := hb
    obtain ⟨z, hz⟩ := Deep.choose_lt hb'
    refine ⟨(List.range len0).map fun i => ⟨z i 0, z i 1, z i 2, z i 3, z i 4, z i 5, z i 6, z i 7, z i 8⟩, rep_of (sz := 9) (z := fun i j => .int .i64 (z i j)) (by simp) hl (fun i ds hi => ?_) (by omega) (fun i j hi hj => (hz i hi j hj).1) (fun i j ds d hi hj => ?_), fun p hp => ?_⟩
    rotate_right
    · rw [List.mem_map] at hp
      obtain ⟨i, hi, rfl⟩ := hp
      have := (hz i (List.mem_range.1 hi) 4 (by omega)).2
      simp only [Lit.wf, Bool.and_eq_true, decide_eq_true_eq] at this
      simpa [SeatOk, IntKind.min, IntKind.max, IntKind.signed, IntKind.bits] using this
    · rw [List.getElem?_map, Option.map_eq_some_iff] at hi
      obtain ⟨x, _, rfl⟩ := hi; rfl
    · rw [List.getElem?_map, Option.map_eq_some_iff] at hi
      obtain ⟨x, hx, rfl⟩ := hi
      rw [List.getElem?_map, Option.map_eq_some_iff] at hx
      obtain ⟨k, hk, rfl⟩ := hx
      have hk : k = i := by
        have := (List.getElem?_eq_some_iff.1 hk).2
        simpa using this.symm
      subst hk
      match j, hj with
      | 0, hj => cases hj; exact .val _ rfl
      | 1, hj => cases hj; exact .val _ rfl
      | 2, hj => cases hj; exact .val _ rfl
      | 3, hj => cases hj; exact .val _ rfl
      | 4, hj => cases hj; exact .val _ rfl
      | 5, hj => cases hj; exact .val _ rfl
      | 6, hj => cases hj; exact .val _ rfl
      | 7, hj => cases hj; exact .val _ rfl
      | 8, hj => cases hj; exact .val _ rfl
      | j + 9, hj => simp [Place.ds] at hj

end

/-- What a law that answers true leaves behind. -/
theorem lawCalls {f : FuncId} {args : List SV} {us : List Value} {w : World} (h : Fn1 Try.prog f args (.b true)) (hr : RelL (cx0 w) args us) :
    Calls Try.prog f us.toArray w fun e w' => e = .returned (.bool true) ∧ Below w.heap.size w w' := by
  refine (h.2 (cx0 w) w us (sat0 w) hr).mono ?_
  rintro e w' ⟨c', own', sv, u, rfl, h1, _, _, h5, rfl⟩
  obtain rfl := h1.of_val
  exact ⟨rfl, h5.os, h5.tape, h5.output, h5.size, fun b hb => h5.keep b hb (fun ⟨r, x, hx, _⟩ => by simp at hx)⟩

end Go.SX.Runs
