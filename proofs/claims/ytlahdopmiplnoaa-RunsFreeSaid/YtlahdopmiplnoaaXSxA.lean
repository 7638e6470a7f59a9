/-
  The symbolic values of the executor, what they stand for in a world, and how a world may go on.
-/
import Derived.WalkKit
namespace Go.SX
open Go

/-- Data: a value of one cell that mentions no memory, or a slice whose elements are told cell by cell. -/
inductive D where
  | val (v : Value)
  | sl (es : List (List D))
deriving Inhabited

/-- The blocks that are known, and that nobody writes any more. -/
abbrev Fz := Nat → Option Obj

inductive Rep (F : Fz) : Value → D → Prop where
  | val (v : Value) (h : v.oneCell' = true) : Rep F v (.val v)
  | nil (a : Option Addr) (cap : Nat) (h : a = none → cap = 0) : Rep F (.slice a 0 cap) (.sl [])
  | sl (b off cap : Nat) (c : Array Value) (e : TypeId) (fr : Nat × Nat) (es : List (List D)) (sz : Nat) (g : Nat → Nat → Value)
      (hF : F b = some (.cells c e fr)) (hcap : es.length ≤ cap) (hsz : ∀ (i : Nat) (ds : List D), es[i]? = some ds → ds.length = sz)
      (hc : ∀ (i : Nat) (ds : List D) (j : Nat) (d : D), es[i]? = some ds → ds[j]? = some d → c[off + i * sz + j]? = some (g i j))
      (hr : ∀ (i : Nat) (ds : List D) (j : Nat) (d : D), es[i]? = some ds → ds[j]? = some d → Rep F (g i j) d) :
      Rep F (.slice (some ⟨b, off, none⟩) es.length cap) (.sl es)

theorem Rep.mono {F F' : Fz} (h : ∀ b o, F b = some o → F' b = some o) {v : Value} {d : D} (r : Rep F v d) : Rep F' v d := by
  induction r with
  | val v h => exact .val v h
  | nil a cap h => exact .nil a cap h
  | sl b off cap c e fr es sz g hF hcap hsz hc _ ih => exact .sl b off cap c e fr es sz g (h _ _ hF) hcap hsz hc ih

theorem Rep.one {F : Fz} {v : Value} {d : D} (r : Rep F v d) : v.oneCell' = true := by
  cases r with
  | val v h => exact h
  | nil => rfl
  | sl => rfl

theorem Rep.val_iff {F : Fz} {v u : Value} : Rep F v (.val u) ↔ v = u ∧ u.oneCell' = true := by
  constructor
  · intro h; cases h with | val v h => exact ⟨rfl, h⟩
  · rintro ⟨rfl, h⟩; exact .val _ h

/-- Symbolic values. 'ptr r off': into the call's own block r; 'hd r': the handle itself of an own row or map; 'fp': into frozen memory; 'rp r sz i j': into own row r, cell j of element i. -/
inductive SV where
  | d (d : D)
  | agg (cs : List SV)
  | tup (cs : List SV)
  | ptr (r off : Nat)
  | hd (r : Nat)
  | fp (ds : List D)
  | rp (r sz i j : Nat)
  | clo (fn : Fn) (first cap : List SV)
  | rs (r sz i : Nat)
  | top
deriving Inhabited

structure Cx where
  θ : Nat → Value
  F : Fz
  N : Nat

structure Cx.le (c c' : Cx) : Prop where
  n : c.N ≤ c'.N
  t : ∀ r, r < c.N → c'.θ r = c.θ r
  f : ∀ b o, c.F b = some o → c'.F b = some o

theorem Cx.le.refl (c : Cx) : c.le c := ⟨Nat.le_refl _, fun _ _ => rfl, fun _ _ h => h⟩
theorem Cx.le.trans {a b c : Cx} (h : a.le b) (k : b.le c) : a.le c :=
  ⟨Nat.le_trans h.n k.n, fun r hr => (k.t r (Nat.lt_of_lt_of_le hr h.n)).trans (h.t r hr), fun b o hb => k.f b o (h.f b o hb)⟩

/-- A slice from an element of a row to the row's end. -/
def RsVal (row : Value) (sz i : Nat) (v : Value) : Prop := ∃ ad n cap, row = .slice ad n cap ∧ i ≤ n ∧ v = .slice (if cap = i then ad else ad.map (·.add (i * sz))) (n - i) (cap - i)

inductive Rel (c : Cx) : SV → Value → Prop where
  | d {v : Value} {d : D} (h : Rep c.F v d) : Rel c (.d d) v
  | agg {cs : List SV} {us : Array Value} (hl : us.size = cs.length) (h : ∀ (i : Nat) s u, cs[i]? = some s → us[i]? = some u → Rel c s u) : Rel c (.agg cs) (.agg us)
  | tup {cs : List SV} {us : Array Value} (hl : us.size = cs.length) (h : ∀ (i : Nat) s u, cs[i]? = some s → us[i]? = some u → Rel c s u) : Rel c (.tup cs) (.tuple us)
  | ptr {r off b : Nat} (hr : r < c.N) (h : c.θ r = .pointer (some ⟨b, 0, none⟩)) : Rel c (.ptr r off) (.pointer (some ⟨b, off, none⟩))
  | hd {r : Nat} {v : Value} (hr : r < c.N) (h : c.θ r = v) : Rel c (.hd r) v
  | fp {b off : Nat} {cs : Array Value} {e : TypeId} {fr : Nat × Nat} {ds : List D} (hF : c.F b = some (.cells cs e fr))
      (h : ∀ (j : Nat) d, ds[j]? = some d → ∃ u, cs[off + j]? = some u ∧ Rep c.F u d) : Rel c (.fp ds) (.pointer (some ⟨b, off, none⟩))
  | rp {r sz i j b n cap : Nat} (hr : r < c.N) (h : c.θ r = .slice (some ⟨b, 0, none⟩) n cap) : Rel c (.rp r sz i j) (.pointer (some ⟨b, i * sz + j, none⟩))
  | clo {fn : Fn} {fs cs : List SV} {us vs : Array Value} (hl : us.size = fs.length) (h : ∀ (i : Nat) s u, fs[i]? = some s → us[i]? = some u → Rel c s u)
      (hl' : vs.size = cs.length) (h' : ∀ (i : Nat) s u, cs[i]? = some s → vs[i]? = some u → Rel c s u) : Rel c (.clo fn fs cs) (.func fn us vs)
  | rs {r sz i : Nat} {v : Value} (hr : r < c.N) (h : RsVal (c.θ r) sz i v) : Rel c (.rs r sz i) v
  | top (v : Value) : Rel c .top v

theorem Rel.mono {c c' : Cx} (hle : c.le c') {s : SV} {v : Value} (h : Rel c s v) : Rel c' s v := by
  induction h with
  | d h => exact .d (h.mono hle.f)
  | agg hl _ ih => exact .agg hl ih
  | tup hl _ ih => exact .tup hl ih
  | ptr hr h => exact .ptr (Nat.lt_of_lt_of_le hr hle.n) ((hle.t _ hr).trans h)
  | hd hr h => exact .hd (Nat.lt_of_lt_of_le hr hle.n) ((hle.t _ hr).trans h)
  | fp hF h => exact .fp (hle.f _ _ hF) (fun j d hj => let ⟨u, h1, h2⟩ := h j d hj; ⟨u, h1, h2.mono hle.f⟩)
  | rp hr h => exact .rp (Nat.lt_of_lt_of_le hr hle.n) ((hle.t _ hr).trans h)
  | clo hl _ hl' _ ih ih' => exact .clo hl ih hl' ih'
  | rs hr h => exact .rs (Nat.lt_of_lt_of_le hr hle.n) (by rw [hle.t _ hr]; exact h)
  | top v => exact .top v

/-- A symbolic value that stands for a value of one cell. -/
def SV.one : SV → Bool
  | .d _ | .ptr .. | .hd _ | .fp _ | .rp .. | .clo .. | .rs .. => true
  | _ => false

theorem Rel.one {c : Cx} (hθ : ∀ r, (c.θ r).oneCell' = true) {s : SV} {v : Value} (h : Rel c s v) (hs : s.one = true) : v.oneCell' = true := by
  cases h with
  | d h => exact h.one
  | hd hr h => subst h; exact hθ _
  | ptr | fp | rp | clo => rfl
  | rs hr h => obtain ⟨_, _, _, _, _, rfl⟩ := h; rfl
  | agg | tup | top => simp [SV.one] at hs

theorem Rel.val_iff {c : Cx} {v u : Value} : Rel c (.d (.val v)) u ↔ u = v ∧ v.oneCell' = true := by
  constructor
  · intro h; cases h with | d h => exact Rep.val_iff.1 h
  · rintro ⟨rfl, h⟩; exact .d (.val _ h)

theorem Rel.of_val {c : Cx} {v u : Value} (h : Rel c (.d (.val v)) u) : u = v := (Rel.val_iff.1 h).1

/-- Lists of values against lists of symbolic ones. -/
def RelL (c : Cx) (ss : List SV) (us : List Value) : Prop := us.length = ss.length ∧ ∀ (i : Nat) s u, ss[i]? = some s → us[i]? = some u → Rel c s u

theorem RelL.nil {c : Cx} : RelL c [] [] := ⟨rfl, fun i s u h => by simp at h⟩
theorem RelL.cons {c : Cx} {s : SV} {u : Value} {ss : List SV} {us : List Value} (h : Rel c s u) (hs : RelL c ss us) : RelL c (s :: ss) (u :: us) :=
  ⟨by simp [hs.1], fun i s' u' h1 h2 => by
    cases i with
    | zero => simp at h1 h2; subst h1; subst h2; exact h
    | succ i => simp at h1 h2; exact hs.2 i s' u' h1 h2⟩
theorem RelL.nil_iff {c : Cx} {us : List Value} : RelL c [] us ↔ us = [] := ⟨fun h => List.eq_nil_of_length_eq_zero h.1, fun h => h ▸ .nil⟩
theorem RelL.cons_iff {c : Cx} {s : SV} {ss : List SV} {us : List Value} : RelL c (s :: ss) us ↔ ∃ u us', us = u :: us' ∧ Rel c s u ∧ RelL c ss us' := by
  constructor
  · intro h
    cases us with
    | nil => exact absurd h.1 (by simp)
    | cons u us => exact ⟨u, us, rfl, h.2 0 s u rfl rfl, by simpa using h.1, fun i s' u' h1 h2 => h.2 (i + 1) s' u' (by simpa using h1) (by simpa using h2)⟩
  · rintro ⟨u, us', rfl, h1, h2⟩; exact .cons h1 h2
theorem RelL.mono {c c' : Cx} (hle : c.le c') {ss : List SV} {us : List Value} (h : RelL c ss us) : RelL c' ss us := ⟨h.1, fun i s u h1 h2 => (h.2 i s u h1 h2).mono hle⟩
theorem RelL.append {c : Cx} {ss ss' : List SV} {us us' : List Value} (h : RelL c ss us) (h' : RelL c ss' us') : RelL c (ss ++ ss') (us ++ us') := by
  induction ss generalizing us with
  | nil => rw [RelL.nil_iff.1 h]; exact h'
  | cons s ss ih => obtain ⟨u, us1, rfl, h1, h2⟩ := RelL.cons_iff.1 h; exact .cons h1 (ih h2)

theorem Rel.agg_iff {c : Cx} {cs : List SV} {v : Value} : Rel c (.agg cs) v ↔ ∃ us : List Value, v = .agg us.toArray ∧ RelL c cs us := by
  constructor
  · intro h; cases h with | @agg _ us hl h => exact ⟨us.toList, by simp, by simpa using hl, fun i s u h1 h2 => h i s u h1 (by simpa using h2)⟩
  · rintro ⟨us, rfl, hl, h⟩; exact .agg (by simpa using hl) (fun i s u h1 h2 => h i s u h1 (by simpa using h2))
theorem Rel.tup_iff {c : Cx} {cs : List SV} {v : Value} : Rel c (.tup cs) v ↔ ∃ us : List Value, v = .tuple us.toArray ∧ RelL c cs us := by
  constructor
  · intro h; cases h with | @tup _ us hl h => exact ⟨us.toList, by simp, by simpa using hl, fun i s u h1 h2 => h i s u h1 (by simpa using h2)⟩
  · rintro ⟨us, rfl, hl, h⟩; exact .tup (by simpa using hl) (fun i s u h1 h2 => h i s u h1 (by simpa using h2))
theorem Rel.clo_iff {c : Cx} {fn : Fn} {fs cs : List SV} {v : Value} : Rel c (.clo fn fs cs) v ↔ ∃ us vs : List Value, v = .func fn us.toArray vs.toArray ∧ RelL c fs us ∧ RelL c cs vs := by
  constructor
  · intro h; cases h with | @clo _ _ _ us vs hl h hl' h' => exact ⟨us.toList, vs.toList, by simp, ⟨by simpa using hl, fun i s u h1 h2 => h i s u h1 (by simpa using h2)⟩, ⟨by simpa using hl', fun i s u h1 h2 => h' i s u h1 (by simpa using h2)⟩⟩
  · rintro ⟨us, vs, rfl, ⟨hl, h⟩, ⟨hl', h'⟩⟩; exact .clo (by simpa using hl) (fun i s u h1 h2 => h i s u h1 (by simpa using h2)) (by simpa using hl') (fun i s u h1 h2 => h' i s u h1 (by simpa using h2))

/-- The kinds of a map's keys that are served. -/
inductive MK where
  | int (q : IntKind)
  | str
  | bool
deriving Inhabited, DecidableEq

def MK.desc : MK → TypeDesc
  | .int q => .int q
  | .str => .string
  | .bool => .bool
def MK.ok : MK → Value → Bool
  | .int q, .int q' _ => decide (q' = q)
  | .str, .string _ => true
  | .bool, .bool _ => true
  | _, _ => false

/-- A value in a map: one cell, or an aggregate. -/
def MVal (F : Fz) (agg : Bool) (ds : List D) (u : Value) : Prop :=
  if agg then ∃ us : Array Value, u = .agg us ∧ us.size = ds.length ∧ ∀ (j : Nat) d, ds[j]? = some d → ∃ x, us[j]? = some x ∧ Rep F x d else ∃ d, ds = [d] ∧ Rep F u d
theorem MVal.mono {F F' : Fz} (h : ∀ b o, F b = some o → F' b = some o) {agg : Bool} {ds : List D} {u : Value} (r : MVal F agg ds u) : MVal F' agg ds u := by
  unfold MVal at *
  split
  · rw [if_pos (by assumption)] at r
    obtain ⟨us, h1, h2, h3⟩ := r
    exact ⟨us, h1, h2, fun j d hj => let ⟨x, k1, k2⟩ := h3 j d hj; ⟨x, k1, k2.mono h⟩⟩
  · rw [if_neg (by assumption)] at r
    obtain ⟨d, h1, h2⟩ := r
    exact ⟨d, h1, h2.mono h⟩

/-- What the call owns: a block of cells; a row (a slice that may grow); nothing any more ('fz': a row that was frozen: data now). -/
inductive Res where
  | gone
  | fz (es : List (List D))
  | cells (cs : List SV) (ty : TypeId)
  | row (ty : TypeId) (sz : Nat) (es : List (List D))
  | fzc (ds : List D)
  | mp (mk : MK) (agg : Bool) (es : List (Value × List D))
deriving Inhabited

def Res.live : Res → Bool
  | .gone | .fz _ | .fzc _ => false
  | _ => true

def blkOf : Value → Option Nat
  | .pointer (some a) => some a.block
  | .slice (some a) _ _ => some a.block
  | .map (some b) => some b
  | _ => none

def ResOk (c : Cx) (w : World) (v : Value) : Res → Prop
  | .gone => True
  | .fz es => Rep c.F v (.sl es)
  | .fzc ds => Rel c (.fp ds) v
  | .cells cs ty => ∃ b us, v = .pointer (some ⟨b, 0, none⟩) ∧ w.heap[b]? = some (.cells us ty (0, 0)) ∧ us.size = cs.length ∧
      ∀ (i : Nat) s, cs[i]? = some s → ∃ u, us[i]? = some u ∧ u.oneCell' = true ∧ Rel c s u
  | .row ty sz es => (∀ ds ∈ es, ds.length = sz) ∧ ∃ us, w.ownsRow 0 ty sz v es.length us ∧ ∀ (j : Nat) d, es.flatten[j]? = some d → ∃ u, us[j]? = some u ∧ Rep c.F u d
  | .mp mk agg es => ∃ b ms clock, v = .map (some b) ∧ w.heap[b]? = some (.map ms clock) ∧ ms.size = es.length ∧
      ∀ (i : Nat) k ds, es[i]? = some (k, ds) → mk.ok k = true ∧ ∃ m, ms[i]? = some m ∧ m.key = k ∧ MVal c.F agg ds m.val

structure Sat (c : Cx) (own : List Res) (w : World) : Prop where
  n : own.length = c.N
  res : ∀ (r : Nat) x, own[r]? = some x → ResOk c w (c.θ r) x
  apart : ∀ (r s : Nat) x y b, own[r]? = some x → own[s]? = some y → x.live = true → y.live = true → blkOf (c.θ r) = some b → blkOf (c.θ s) = some b → r = s
  notF : ∀ (r : Nat) x b, own[r]? = some x → x.live = true → blkOf (c.θ r) = some b → c.F b = none
  le : ∀ b o, c.F b = some o → w.heap[b]? = some o
  one : ∀ r, (c.θ r).oneCell' = true

def Own (c : Cx) (own : List Res) (b : Nat) : Prop := ∃ (r : Nat) (x : Res), own[r]? = some x ∧ x.live = true ∧ blkOf (c.θ r) = some b

structure Goes (c : Cx) (own : List Res) (w : World) (c' : Cx) (own' : List Res) (w' : World) : Prop where
  os : w'.os = w.os
  tape : w'.tape = w.tape
  output : w'.output = w.output
  size : w.heap.size ≤ w'.heap.size
  keep : ∀ b, b < w.heap.size → ¬ Own c own b → w'.heap[b]? = w.heap[b]?
  newF : ∀ b, c'.F b ≠ none → c.F b ≠ none ∨ w.heap.size ≤ b ∨ Own c own b
  newO : ∀ b, Own c' own' b → Own c own b ∨ w.heap.size ≤ b
  f : ∀ b o, c.F b = some o → c'.F b = some o

theorem Goes.refl (c : Cx) (own : List Res) (w : World) : Goes c own w c own w :=
  ⟨rfl, rfl, rfl, Nat.le_refl _, fun _ _ _ => rfl, fun _ h => .inl h, fun _ h => .inl h, fun _ _ h => h⟩

theorem Goes.trans {c c1 c2 : Cx} {o o1 o2 : List Res} {w w1 w2 : World} (h : Goes c o w c1 o1 w1) (k : Goes c1 o1 w1 c2 o2 w2) : Goes c o w c2 o2 w2 where
  os := k.os.trans h.os
  tape := k.tape.trans h.tape
  output := k.output.trans h.output
  size := Nat.le_trans h.size k.size
  keep b hb hn := by
    rw [k.keep b (Nat.lt_of_lt_of_le hb h.size) (fun ho => by rcases h.newO b ho with h1 | h1; exact hn h1; omega), h.keep b hb hn]
  newF b hb := by
    rcases k.newF b hb with h1 | h1 | h1
    · exact h.newF b h1
    · exact .inr (.inl (Nat.le_trans h.size h1))
    · rcases h.newO b h1 with h2 | h2
      · exact .inr (.inr h2)
      · exact .inr (.inl h2)
  newO b hb := by
    rcases k.newO b hb with h1 | h1
    · exact h.newO b h1
    · exact .inr (Nat.le_trans h.size h1)
  f b o hb := k.f b o (h.f b o hb)

/-- A block that the call owns is there. -/
theorem Sat.blk_lt {c : Cx} {own : List Res} {w : World} (h : Sat c own w) {b : Nat} (hb : Own c own b) : b < w.heap.size := by
  obtain ⟨r, x, hx, hl, hbk⟩ := hb
  have hr := h.res r x hx
  cases x with
  | gone => simp [Res.live] at hl
  | fz => simp [Res.live] at hl
  | fzc => simp [Res.live] at hl
  | cells cs ty =>
    obtain ⟨b', us, hv, hw, _⟩ := hr
    rw [hv] at hbk; simp [blkOf] at hbk; subst hbk
    exact (Array.getElem?_eq_some_iff.1 hw).1
  | mp mk agg es =>
    obtain ⟨b', ms, clock, hv, hw, _⟩ := hr
    rw [hv] at hbk; simp [blkOf] at hbk; subst hbk
    exact (Array.getElem?_eq_some_iff.1 hw).1
  | row ty sz es =>
    obtain ⟨_, us, ⟨_, hv⟩, _⟩ := hr
    rcases hv with ⟨hv, _⟩ | ⟨g, cap, cur, hv, _, hw, _⟩
    · rw [hv] at hbk; simp [blkOf] at hbk
    · rw [hv] at hbk; simp [blkOf] at hbk; subst hbk
      exact (Array.getElem?_eq_some_iff.1 hw).1

theorem Sat.F_lt {c : Cx} {own : List Res} {w : World} (h : Sat c own w) {b : Nat} {o : Obj} (hb : c.F b = some o) : b < w.heap.size :=
  (Array.getElem?_eq_some_iff.1 (h.le b o hb)).1

/-- A resource stands as long as its block stands. -/
theorem ResOk.keep {c c' : Cx} {w w' : World} {v : Value} {x : Res} (h : ResOk c w v x) (hle : c.le c') (hw : x.live = true → ∀ b, blkOf v = some b → w'.heap[b]? = w.heap[b]?) : ResOk c' w' v x := by
  cases x with
  | gone => trivial
  | fz es => exact Rep.mono hle.f h
  | fzc ds => exact Rel.mono hle h
  | mp mk agg es =>
    obtain ⟨b, ms, clock, hv, hb, hs, hc⟩ := h
    exact ⟨b, ms, clock, hv, by rw [hw rfl b (by rw [hv]; rfl)]; exact hb, hs, fun i k ds hi => let ⟨h1, m, h2, h3, h4⟩ := hc i k ds hi; ⟨h1, m, h2, h3, h4.mono hle.f⟩⟩
  | cells cs ty =>
    obtain ⟨b, us, hv, hb, hs, hc⟩ := h
    exact ⟨b, us, hv, by rw [hw rfl b (by rw [hv]; rfl)]; exact hb, hs, fun i s hi => let ⟨u, h1, h2, h3⟩ := hc i s hi; ⟨u, h1, h2, h3.mono hle⟩⟩
  | row ty sz es =>
    obtain ⟨hd, us, ⟨hn, hv⟩, hc⟩ := h
    refine ⟨hd, us, ⟨hn, ?_⟩, fun j d hj => let ⟨u, h1, h2⟩ := hc j d hj; ⟨u, h1, h2.mono hle.f⟩⟩
    rcases hv with hv | ⟨g, cap, cur, hv, h0, hb, hr⟩
    · exact .inl hv
    · exact .inr ⟨g, cap, cur, hv, h0, by rw [hw rfl g (by rw [hv]; rfl)]; exact hb, hr⟩

/-- The world goes on by blocks of its own alone (a call that owns nothing; an allocation that is frozen at once): all stands. -/
theorem Sat.on {c c' : Cx} {own : List Res} {w w' : World} (h : Sat c own w) (hle : c.le c') (hN : c'.N = c.N) (hθ : ∀ r, (c'.θ r).oneCell' = true)
    (hw : ∀ b, b < w.heap.size → w'.heap[b]? = w.heap[b]?) (hF : ∀ b o, c'.F b = some o → w'.heap[b]? = some o) (hnF : ∀ b, c'.F b ≠ none → c.F b ≠ none ∨ w.heap.size ≤ b) : Sat c' own w' where
  n := h.n.trans hN.symm
  res r x hx := by
    have hr : r < c.N := by rw [← h.n]; exact (List.getElem?_eq_some_iff.1 hx).1
    rw [hle.t r hr]
    exact (h.res r x hx).keep hle fun hl b hb => hw b (h.blk_lt ⟨r, x, hx, hl, hb⟩)
  apart r s x y b hx hy hl hl' hb hb' := by
    have hr : r < c.N := by rw [← h.n]; exact (List.getElem?_eq_some_iff.1 hx).1
    have hs : s < c.N := by rw [← h.n]; exact (List.getElem?_eq_some_iff.1 hy).1
    rw [hle.t r hr] at hb; rw [hle.t s hs] at hb'
    exact h.apart r s x y b hx hy hl hl' hb hb'
  notF r x b hx hl hb := by
    have hr : r < c.N := by rw [← h.n]; exact (List.getElem?_eq_some_iff.1 hx).1
    rw [hle.t r hr] at hb
    have h0 := h.notF r x b hx hl hb
    cases hc : c'.F b with
    | none => rfl
    | some o =>
      rcases hnF b (by simp [hc]) with h1 | h1
      · exact absurd h0 h1
      · have := h.blk_lt ⟨r, x, hx, hl, hb⟩; omega
  le := hF
  one := hθ

end Go.SX
