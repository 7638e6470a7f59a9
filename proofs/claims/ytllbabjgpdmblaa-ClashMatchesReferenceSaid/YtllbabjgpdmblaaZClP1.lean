/- Parts of the proof. -/
import Derived.Test.YtllbabjgpdmblaaZSyS
set_option linter.unusedSimpArgs false
set_option linter.unusedVariables false
namespace Go.SX.ClP
def lexLt (a : Nat) (f g : Nat → Int) : Prop := ∃ n, a ≤ n ∧ n < 10 ∧ (∀ j, a ≤ j → j < n → f j = g j) ∧ f n < g n
theorem least_of {p : Nat → Prop} : ∀ (n : Nat), p n → ∃ m, p m ∧ ∀ k, k < m → ¬ p k := by
 intro n
 induction n using Nat.strongRecOn with
 | _ n ih =>
   intro h
   by_cases hk : ∃ k, k < n ∧ p k
   · obtain ⟨k, h1, h2⟩ := hk; exact ih k h1 h2
   · exact ⟨n, h, fun k h1 h2 => hk ⟨k, h1, h2⟩⟩
theorem lex_tri (a : Nat) (f g : Nat → Int) : lexLt a f g ∨ lexLt a g f ∨ ∀ j, a ≤ j → j < 10 → f j = g j := by
 by_cases h : ∃ n, a ≤ n ∧ n < 10 ∧ f n ≠ g n
 · obtain ⟨n0, h0⟩ := h
   obtain ⟨n, ⟨h1, h2, h3⟩, hl⟩ := least_of (p := fun n => a ≤ n ∧ n < 10 ∧ f n ≠ g n) n0 h0
   have he : ∀ j, a ≤ j → j < n → f j = g j := fun j k1 k2 => Classical.byContradiction fun k3 => hl j k2 ⟨k1, by omega, k3⟩
   by_cases h4 : f n < g n
   · exact .inl ⟨n, h1, h2, he, h4⟩
   · exact .inr (.inl ⟨n, h1, h2, fun j k1 k2 => (he j k1 k2).symm, by omega⟩)
 · exact .inr (.inr fun j h1 h2 => Classical.byContradiction fun h3 => h ⟨j, h1, h2, h3⟩)
theorem not_lex_of_le {a : Nat} {f g : Nat → Int} (h : ∀ j, a ≤ j → j < 10 → f j ≤ g j) : ¬ lexLt a g f := fun ⟨n, h1, h2, _, h4⟩ => by
 have := h n h1 h2; omega
theorem lex_trans {a : Nat} {f g e : Nat → Int} (h : lexLt a f g) (k : lexLt a g e) : lexLt a f e := by
 obtain ⟨n, h1, h2, h3, h4⟩ := h
 obtain ⟨m, k1, k2, k3, k4⟩ := k
 rcases Nat.lt_trichotomy n m with hl | rfl | hl
 · exact ⟨n, h1, h2, fun j j1 j2 => (h3 j j1 j2).trans (k3 j j1 (by omega)), by rw [← k3 n h1 hl]; exact h4⟩
 · exact ⟨n, h1, h2, fun j j1 j2 => (h3 j j1 j2).trans (k3 j j1 j2), by omega⟩
 · exact ⟨m, k1, k2, fun j j1 j2 => (h3 j j1 (by omega)).trans (k3 j j1 j2), by rw [h3 m k1 hl]; exact k4⟩
theorem exists_max : ∀ (l : List Int), l ≠ [] → ∃ m ∈ l, ∀ x ∈ l, x ≤ m
 | [], h => absurd rfl h
 | [x], _ => ⟨x, by simp, by simp⟩
 | x :: y :: l, _ => by
   obtain ⟨m, h1, h2⟩ := exists_max (y :: l) (by simp)
   by_cases h : x ≤ m
   · exact ⟨m, List.mem_cons_of_mem _ h1, fun z hz => by
       rcases List.mem_cons.1 hz with rfl | hz
       · exact h
       · exact h2 z hz⟩
   · exact ⟨x, by simp, fun z hz => by
       rcases List.mem_cons.1 hz with rfl | hz
       · omega
       · have := h2 z hz; omega⟩
section zones
variable (lo hi : Nat → Nat → Int) (L H : Nat → Int) (rule : Nat → Int) (need : List Int) (Wt : List Nat → Bool)
def inAt (i j : Nat) (v : Int) : Bool := decide (lo i j ≤ v) && decide (v ≤ hi i j)
def inFrom (a i : Nat) (f : Nat → Int) : Bool := (List.range 10).all fun j => decide (j < a) || inAt lo hi i j (f j)
def finL (alive : List Nat) (a : Nat) (f : Nat → Int) : List Nat := alive.filter fun i => inFrom lo hi a i f
def good (l : List Nat) : Prop := (∀ r ∈ need, ∃ i ∈ l, rule i = r) ∧ Wt l = true
def win (a : Nat) (f : Nat → Int) : Prop := ∀ j, a ≤ j → j < 10 → L j ≤ f j ∧ f j ≤ H j
def bad (a : Nat) (alive : List Nat) : Prop := ∀ f, win L H a f → ¬ good rule need Wt (finL lo hi alive a f)
structure found (a : Nat) (alive : List Nat) (facts g : Nat → Int) : Prop where
 pre : ∀ j, j < a → g j = facts j
 win : win L H a g
 good : good rule need Wt (finL lo hi alive a g)
 least : ∀ f, ClP.win L H a f → lexLt a f g → ¬ ClP.good rule need Wt (finL lo hi alive a f)
def isCut (alive : List Nat) (a : Nat) (c : Int) : Prop := c = L a ∨ ∃ i ∈ alive, c = lo i a ∨ (hi i a < H a ∧ c = hi i a + 1)
variable {lo hi L H rule need Wt}
theorem inFrom_iff {a i : Nat} {f : Nat → Int} : inFrom lo hi a i f = true ↔ ∀ j, a ≤ j → j < 10 → inAt lo hi i j (f j) = true := by
 unfold inFrom
 rw [List.all_eq_true]
 constructor
 · intro h j h1 h2
   have := h j (List.mem_range.2 h2)
   simpa [show ¬ j < a by omega] using this
 · intro h j h2
   by_cases h1 : j < a
   · simp [h1]
   · simp [h j (by omega) (List.mem_range.1 h2)]
theorem inFrom_step {a i : Nat} {f : Nat → Int} (ha : a < 10) : inFrom lo hi a i f = (inAt lo hi i a (f a) && inFrom lo hi (a + 1) i f) := by
 rw [Bool.eq_iff_iff, Bool.and_eq_true, inFrom_iff, inFrom_iff]
 constructor
 · exact fun h => ⟨h a (Nat.le_refl _) ha, fun j h1 h2 => h j (by omega) h2⟩
 · rintro ⟨h1, h2⟩ j k1 k2
   by_cases hj : j = a
   · subst hj; exact h1
   · exact h2 j (by omega) k2
theorem finL_step {alive : List Nat} {a : Nat} {f : Nat → Int} (ha : a < 10) : finL lo hi alive a f = finL lo hi (alive.filter fun i => inAt lo hi i a (f a)) (a + 1) f := by
 unfold finL
 rw [List.filter_filter]
 exact List.filter_congr fun i _ => by rw [inFrom_step ha, Bool.and_comm]
theorem finL_end {alive : List Nat} {f : Nat → Int} : finL lo hi alive 10 f = alive := by
 unfold finL
 rw [List.filter_eq_self]
 intro i _
 rw [inFrom_iff]
 intro j h1 h2
 omega
theorem finL_sub {alive : List Nat} {a : Nat} {f : Nat → Int} {i : Nat} (h : i ∈ finL lo hi alive a f) : i ∈ alive := (List.mem_filter.1 h).1
theorem same_cut {alive : List Nat} {a : Nat} {c v : Int} (hcv : c ≤ v) (hv : v ≤ H a) (hg : ∀ c', isCut lo hi L H alive a c' → c' ≤ v → c' ≤ c) : (alive.filter fun i => inAt lo hi i a c) = alive.filter fun i => inAt lo hi i a v := by
 refine List.filter_congr fun i hi' => ?_
 unfold inAt
 rw [Bool.eq_iff_iff]
 simp only [Bool.and_eq_true, decide_eq_true_eq]
 constructor
 · rintro ⟨h1, h2⟩
   refine ⟨by omega, Classical.byContradiction fun h3 => ?_⟩
   have := hg (hi i a + 1) (.inr ⟨i, hi', .inr ⟨by omega, rfl⟩⟩) (by omega)
   omega
 · rintro ⟨h1, h2⟩
   have := hg (lo i a) (.inr ⟨i, hi', .inl rfl⟩) h1
   omega
theorem cut_below {alive : List Nat} {a : Nat} {cuts : List Int} (hm : ∀ c, c ∈ cuts ↔ isCut lo hi L H alive a c) {v : Int} (h1 : L a ≤ v) : ∃ c ∈ cuts, c ≤ v ∧ ∀ c' ∈ cuts, c' ≤ v → c' ≤ c := by
 obtain ⟨m, k1, k2⟩ := exists_max (cuts.filter fun c => decide (c ≤ v)) (by
   intro h
   have : L a ∈ cuts.filter fun c => decide (c ≤ v) := List.mem_filter.2 ⟨(hm _).2 (.inl rfl), by simpa using h1⟩
   rw [h] at this; simp at this)
 obtain ⟨k3, k4⟩ := List.mem_filter.1 k1
 exact ⟨m, k3, by simpa using k4, fun c' h2 h3 => k2 c' (List.mem_filter.2 ⟨h2, by simpa using h3⟩)⟩
theorem bad_of_cuts {alive : List Nat} {a : Nat} (ha : a < 10) {cuts : List Int} (hm : ∀ c, c ∈ cuts ↔ isCut lo hi L H alive a c)
   (hb : ∀ c ∈ cuts, bad lo hi L H rule need Wt (a + 1) (alive.filter fun i => inAt lo hi i a c)) : bad lo hi L H rule need Wt a alive := by
 intro f hw hg
 obtain ⟨k1, k2⟩ := hw a (Nat.le_refl _) ha
 obtain ⟨c, h1, h2, h3⟩ := cut_below hm k1
 have hs := same_cut (v := f a) h2 k2 fun c' hc => h3 c' ((hm c').2 hc)
 rw [finL_step ha, ← hs] at hg
 exact hb c h1 f (fun j j1 j2 => hw j (by omega) j2) hg
theorem found_of_cut {alive : List Nat} {a : Nat} (ha : a < 10) {cuts : List Int} (hm : ∀ c, c ∈ cuts ↔ isCut lo hi L H alive a c) {n : Int} {facts facts' g : Nat → Int} (hn : L a ≤ n ∧ n ≤ H a)
   (hb : ∀ c ∈ cuts, c < n → bad lo hi L H rule need Wt (a + 1) (alive.filter fun i => inAt lo hi i a c))
   (hp : ∀ j, j < a → facts' j = facts j) (hpn : facts' a = n) (hf : found lo hi L H rule need Wt (a + 1) (alive.filter fun i => inAt lo hi i a n) facts' g) : found lo hi L H rule need Wt a alive facts g := by
 have hga : g a = n := (hf.pre a (Nat.lt_succ_self _)).trans hpn
 refine ⟨fun j hj => (hf.pre j (by omega)).trans (hp j hj), fun j h1 h2 => ?_, ?_, fun f hw hl hg => ?_⟩
 · by_cases hj : j = a
   · subst hj; rw [hga]; exact hn
   · exact hf.win j (by omega) h2
 · rw [finL_step ha, hga]; exact hf.good
 · have hw' : win L H (a + 1) f := fun j j1 j2 => hw j (by omega) j2
   obtain ⟨k1, k2⟩ := hw a (Nat.le_refl _) ha
   rw [finL_step ha] at hg
   obtain ⟨m, m1, m2, m3, m4⟩ := hl
   by_cases hma : m = a
   · subst hma
     rw [hga] at m4
     obtain ⟨c, h1, h2, h3⟩ := cut_below hm k1
     have hs := same_cut (v := f m) h2 k2 fun c' hc => h3 c' ((hm c').2 hc)
     rw [← hs] at hg
     exact hb c h1 (by omega) f hw' hg
   · have hfa : f a = n := by rw [m3 a (Nat.le_refl _) (by omega), hga]
     rw [hfa] at hg
     exact hf.least f hw' ⟨m, by omega, m2, fun j j1 j2 => m3 j (by omega) j2, m4⟩ hg
theorem found_end {alive : List Nat} {facts : Nat → Int} (h : good rule need Wt alive) : found lo hi L H rule need Wt 10 alive facts facts :=
 ⟨fun _ _ => rfl, fun j h1 h2 => by omega, by rw [finL_end]; exact h, fun f _ hl => by obtain ⟨n, h1, h2, _⟩ := hl; omega⟩
theorem bad_end {alive : List Nat} (h : ¬ good rule need Wt alive) : bad lo hi L H rule need Wt 10 alive := fun f _ hg => by rw [finL_end] at hg; exact h hg
theorem bad_need {alive : List Nat} {a : Nat} {r : Int} (hr : r ∈ need) (h : ∀ i ∈ alive, rule i ≠ r) : bad lo hi L H rule need Wt a alive := fun f _ hg => by
 obtain ⟨i, h1, h2⟩ := hg.1 r hr
 exact h i (finL_sub h1) h2
end zones
end Go.SX.ClP
