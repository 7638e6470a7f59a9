/-
  Runs: the reference's runs are the program's (plain).
-/
import Derived.Test.YtlahdopmiplnoaaYRP5
set_option linter.unusedSimpArgs false
set_option linter.unusedVariables false
set_option linter.unusedSectionVars false
namespace Go.SX.Runs
open Go Go.Proofs
/-- A division of a list of indices: within a part each one is the neighbour of the one before, and not across two parts. -/
structure Seg (r : Int → Int → Prop) (gs : List (List Int)) : Prop where
  ne : ∀ g ∈ gs, g ≠ []
  on : ∀ g ∈ gs, ∀ (i : Nat) a b, g[i]? = some a → g[i + 1]? = some b → r a b
  cut : ∀ (i : Nat) g g' a b, gs[i]? = some g → gs[i + 1]? = some g' → g.getLast? = some a → g'[0]? = some b → ¬ r a b
theorem Seg.tail {r : Int → Int → Prop} {g : List Int} {gs : List (List Int)} (h : Seg r (g :: gs)) : Seg r gs where
  ne x hx := h.ne x (List.mem_cons_of_mem _ hx)
  on x hx := h.on x (List.mem_cons_of_mem _ hx)
  cut i := h.cut (i + 1)
theorem Seg.not_lt {r : Int → Int → Prop} {g g' : List Int} {gs gs' : List (List Int)} (h : Seg r (g :: gs)) (h' : Seg r (g' :: gs')) (he : g ++ gs.flatten = g' ++ gs'.flatten) : ¬ g.length < g'.length := by
  intro hlt
  have hg : 0 < g.length := List.length_pos_iff.2 (h.ne g List.mem_cons_self)
  have e1 : ∀ i, i < g'.length → (g ++ gs.flatten)[i]? = g'[i]? := fun i hi => by rw [he, List.getElem?_append_left hi]
  obtain ⟨a, ha⟩ : ∃ a, g[g.length - 1]? = some a := ⟨_, List.getElem?_eq_getElem (by omega)⟩
  have ha' : g'[g.length - 1]? = some a := by rw [← e1 _ (by omega), List.getElem?_append_left (by omega)]; exact ha
  obtain ⟨b, hb⟩ : ∃ b, g'[g.length]? = some b := ⟨_, List.getElem?_eq_getElem hlt⟩
  have hb' : gs.flatten[0]? = some b := by
    have := e1 g.length hlt
    rw [List.getElem?_append_right (Nat.le_refl _), Nat.sub_self] at this
    rw [this]; exact hb
  have hr := h'.on g' List.mem_cons_self (g.length - 1) a b ha' (by rw [show g.length - 1 + 1 = g.length by omega]; exact hb)
  match gs, h, hb' with
  | [], _, hb' => cases hb'
  | g2 :: gs, h, hb' =>
    have h2 : 0 < g2.length := List.length_pos_iff.2 (h.ne g2 (by simp))
    rw [List.flatten_cons, List.getElem?_append_left h2] at hb'
    exact h.cut 0 g g2 a b rfl rfl (by rw [List.getLast?_eq_getElem?]; exact ha) hb' hr
theorem Seg.uniq {r : Int → Int → Prop} : ∀ {gs gs' : List (List Int)}, Seg r gs → Seg r gs' → gs.flatten = gs'.flatten → gs = gs'
  | [], [], _, _, _ => rfl
  | [], g :: gs, _, h', he => by
    have := h'.ne g List.mem_cons_self
    rw [List.flatten_nil, List.flatten_cons] at he
    exact absurd (List.append_eq_nil_iff.1 he.symm).1 this
  | g :: gs, [], h, _, he => by
    have := h.ne g List.mem_cons_self
    rw [List.flatten_nil, List.flatten_cons] at he
    exact absurd (List.append_eq_nil_iff.1 he).1 this
  | g :: gs, g' :: gs', h, h', he => by
    rw [List.flatten_cons, List.flatten_cons] at he
    have h1 := h.not_lt h' he
    have h2 := h'.not_lt h he.symm
    obtain ⟨e1, e2⟩ := List.append_inj he (by omega)
    rw [e1, h.tail.uniq h'.tail e2]
theorem sub_flat {gs rs : List (List Int)} (h : gs.Sublist rs) : gs.flatten.Sublist rs.flatten := by
  induction h with
  | slnil => exact .slnil
  | cons a _ ih => rw [List.flatten_cons]; exact ih.trans (List.sublist_append_right _ _)
  | cons_cons a _ ih => rw [List.flatten_cons, List.flatten_cons]; exact List.Sublist.append_left ih _
def nextAt (l : List Place) (a b : Int) : Prop := ∃ (n m : Nat) (p q : Place), a = n ∧ b = m ∧ l[n]? = some p ∧ l[m]? = some q ∧ nextP p q = true
theorem nat_of_run {l : List Place} {t : List Bool} (ho : orderedP l = true) {r : List Int} (hr : r ∈ freeI l t) {x : Int} (hx : x ∈ r) : ∃ (n : Nat) (p : Place), x = n ∧ l[n]? = some p ∧ isSeat p = true ∧ takenL t n = false := by
  obtain ⟨g, hg, hrg⟩ := run_mem ho hr
  obtain ⟨k, hk⟩ := List.getElem?_of_mem hx
  obtain ⟨p, j, _, h2, h3, h4, h5⟩ := run_get ho hg hrg hk
  exact ⟨j, p, h2, h3, h4, h5⟩
/-- Some of the runs. -/
theorem seg_runs {l : List Place} {t : List Bool} (hok : ∀ p ∈ l, SeatOk p) (ho : orderedP l = true) {gs : List (List Int)} (hs : gs.Sublist (freeI l t)) : Seg (nextAt l) gs where
  ne g hg := freeI_ne (hs.subset hg)
  on g hg i a b ha hb := by
    obtain ⟨n, p, rfl, h1, _⟩ := nat_of_run ho (hs.subset hg) (List.mem_of_getElem? ha)
    obtain ⟨m, q, rfl, h2, _⟩ := nat_of_run ho (hs.subset hg) (List.mem_of_getElem? hb)
    exact ⟨n, m, p, q, rfl, rfl, h1, h2, run_next ho (hs.subset hg) ha hb (by simpa using h1) (by simpa using h2)⟩
  cut i g g' a b hg hg' ha hb := by
    rintro ⟨n, m, p, q, rfl, rfl, h1, h2, h3⟩
    have hgm := hs.subset (List.mem_of_getElem? hg)
    have hgm' := hs.subset (List.mem_of_getElem? hg')
    have ham : (n : Int) ∈ g := List.mem_of_getLast? ha
    have hbm : (m : Int) ∈ g' := List.mem_of_getElem? hb
    obtain ⟨m', q', e, k1, k2, k3⟩ := nat_of_run ho hgm' hbm
    have : m' = m := by omega
    subst this
    rw [h2] at k1; cases k1
    have hin := side_same hok ho hgm ham h1 h2 k2 k3 h3
    have hnd : gs.flatten.Nodup := (free_nodup t ho).sublist (sub_flat hs)
    rw [flat_split hg] at hnd
    refine (List.nodup_append.1 (List.nodup_append.1 hnd).2.1).2.2 _ hin _ (List.mem_flatten.2 ⟨g', ?_, hbm⟩) rfl
    rw [List.mem_iff_getElem?]
    exact ⟨0, by rw [List.getElem?_drop]; exact hg'⟩
/-- Whether the last free seat is the neighbour of a place. -/
def linked (l : List Place) (n : Int) (p : Place) : Bool := decide (0 ≤ n) && (match l[n.toNat]? with | some q => nextP q p | none => false)
/-- One place of the reference's loop: the runs so far, the last free seat. -/
def refStep (l : List Place) (t : List Bool) (s : List (List Int) × Int) (i : Nat) : List (List Int) × Int :=
  match l[i]? with
  | none => s
  | some p => if isSeat p = false then s else if takenL t i then (s.1, -1) else if linked l s.2 p then (s.1.dropLast ++ [s.1.getLastD [] ++ [(i : Int)]], i) else (s.1 ++ [[(i : Int)]], i)
def refTo (l : List Place) (t : List Bool) : Nat → List (List Int) × Int
  | 0 => ([], -1)
  | k + 1 => refStep l t (refTo l t k) k
def refFree (l : List Place) (t : List Bool) : List (List Int) := if orderedP l then (refTo l t l.length).1 else []

def flatTo (l : List Place) (t : List Bool) (k : Nat) : List Int := (freeL t (seatsL (l.take k))).map fun x => (x.2 : Int)
theorem flatTo_succ {l : List Place} {t : List Bool} {k : Nat} {p : Place} (h : l[k]? = some p) : flatTo l t (k + 1) = flatTo l t k ++ (if isSeat p && !takenL t k then [(k : Int)] else []) := by
  rw [flatTo, flatTo, seatsL_take h]
  cases hs : isSeat p with
  | false => simp
  | true =>
    rw [if_pos rfl, freeL_snoc]
    cases ht : takenL t k <;> simp [ht]
theorem flatTo_mem {l : List Place} {t : List Bool} {k : Nat} {a : Int} (h : a ∈ flatTo l t k) : ∃ (n : Nat) (p : Place), a = n ∧ n < k ∧ l[n]? = some p ∧ isSeat p = true := by
  rw [flatTo, List.mem_map] at h
  obtain ⟨⟨p, n⟩, hx, rfl⟩ := h
  obtain ⟨h1, h2⟩ := seats_iff.1 (freeL_mem.1 hx).1
  rw [List.getElem?_take] at h1
  split at h1
  · exact ⟨n, p, rfl, by assumption, h1, h2⟩
  · cases h1
theorem Seg.app {r : Int → Int → Prop} {hs : List (List Int)} {g : List Int} (h : Seg r hs) (hne : g ≠ []) (hon : ∀ (i : Nat) a b, g[i]? = some a → g[i + 1]? = some b → r a b)
    (hc : ∀ g0 a b, hs.getLast? = some g0 → g0.getLast? = some a → g[0]? = some b → ¬ r a b) : Seg r (hs ++ [g]) where
  ne x hx := by
    rcases List.mem_append.1 hx with hx | hx
    · exact h.ne x hx
    · rw [List.mem_singleton.1 hx]; exact hne
  on x hx := by
    rcases List.mem_append.1 hx with hx | hx
    · exact h.on x hx
    · rw [List.mem_singleton.1 hx]; exact hon
  cut i g1 g2 a b h1 h2 ha hb := by
    rcases Nat.lt_or_ge (i + 1) hs.length with hi | hi
    · rw [List.getElem?_append_left (by omega)] at h1
      rw [List.getElem?_append_left hi] at h2
      exact h.cut i g1 g2 a b h1 h2 ha hb
    · have h3 := (List.getElem?_eq_some_iff.1 h2).1
      rw [List.length_append, List.length_singleton] at h3
      have hi2 : i + 1 = hs.length := by omega
      rw [List.getElem?_append_right hi, hi2, Nat.sub_self] at h2
      cases h2
      rw [List.getElem?_append_left (by omega)] at h1
      refine hc g1 a b ?_ ha hb
      rw [List.getLast?_eq_getElem?, ← hi2]; exact h1
theorem Seg.init {r : Int → Int → Prop} {hs : List (List Int)} {g : List Int} (h : Seg r (hs ++ [g])) : Seg r hs ∧ ∀ g0 a b, hs.getLast? = some g0 → g0.getLast? = some a → g[0]? = some b → ¬ r a b := by
  refine ⟨⟨fun x hx => h.ne x (List.mem_append_left _ hx), fun x hx => h.on x (List.mem_append_left _ hx), fun i g1 g2 a b h1 h2 => ?_⟩, fun g0 a b h0 ha hb => ?_⟩
  · have k1 := (List.getElem?_eq_some_iff.1 h1).1
    have k2 := (List.getElem?_eq_some_iff.1 h2).1
    exact h.cut i g1 g2 a b (by rw [List.getElem?_append_left k1]; exact h1) (by rw [List.getElem?_append_left k2]; exact h2)
  · rw [List.getLast?_eq_getElem?] at h0
    have k1 := (List.getElem?_eq_some_iff.1 h0).1
    refine h.cut (hs.length - 1) g0 g a b (by rw [List.getElem?_append_left k1]; exact h0) ?_ ha hb
    rw [show hs.length - 1 + 1 = hs.length by omega, List.getElem?_append_right (Nat.le_refl _), Nat.sub_self]; rfl
theorem last_flat {gs : List (List Int)} {g : List Int} {a : Int} (h : gs.getLast? = some g) (ha : g.getLast? = some a) : gs.flatten.getLast? = some a := by
  obtain ⟨hs, rfl⟩ := List.getLast?_eq_some_iff.1 h
  rw [List.flatten_append, List.flatten_cons, List.flatten_nil, List.append_nil, List.getLast?_append, ha]; rfl
theorem Seg.new {r : Int → Int → Prop} {gs : List (List Int)} {b : Int} (h : Seg r gs) (hc : ∀ a, gs.flatten.getLast? = some a → ¬ r a b) : Seg r (gs ++ [[b]]) :=
  h.app (by simp) (fun i a b' ha hb => by simp at hb) fun g0 a b' h0 ha hb => by
    cases hb
    exact hc a (last_flat h0 ha)
theorem Seg.more {r : Int → Int → Prop} {gs : List (List Int)} {a b : Int} (h : Seg r gs) (ha : gs.flatten.getLast? = some a) (hr : r a b) :
    Seg r (gs.dropLast ++ [gs.getLastD [] ++ [b]]) ∧ (gs.dropLast ++ [gs.getLastD [] ++ [b]]).flatten = gs.flatten ++ [b] := by
  rcases List.eq_nil_or_concat gs with rfl | ⟨hs, g, rfl⟩
  · cases ha
  · simp only [List.concat_eq_append] at *
    have hne : g ≠ [] := h.ne g (by simp)
    obtain ⟨h1, h2⟩ := h.init
    have e1 : (hs ++ [g]).dropLast = hs := by simp
    have e2 : (hs ++ [g]).getLastD [] = g := by simp
    have hl : g.getLast? = some a := by
      obtain ⟨x, hx⟩ : ∃ x, g.getLast? = some x := by
        cases e : g.getLast? with
        | none => exact absurd (List.getLast?_eq_none_iff.1 e) hne
        | some x => exact ⟨x, rfl⟩
      have := last_flat (gs := hs ++ [g]) (g := g) (a := x) (by simp) hx
      rw [this] at ha; cases ha; exact hx
    have hp : 0 < g.length := List.length_pos_iff.2 hne
    rw [e1, e2]
    refine ⟨h1.app (by simp) (fun i x y hx hy => ?_) fun g0 x y h0 hx hy => ?_, by simp⟩
    · rcases Nat.lt_or_ge (i + 1) g.length with hi | hi
      · rw [List.getElem?_append_left (by omega)] at hx
        rw [List.getElem?_append_left hi] at hy
        exact h.on g (by simp) i x y hx hy
      · have h3 := (List.getElem?_eq_some_iff.1 hy).1
        rw [List.length_append, List.length_singleton] at h3
        have hi2 : i + 1 = g.length := by omega
        rw [List.getElem?_append_right hi, hi2, Nat.sub_self] at hy
        cases hy
        rw [List.getElem?_append_left (by omega)] at hx
        rw [List.getLast?_eq_getElem?, ← hi2, Nat.add_sub_cancel, hx] at hl
        cases hl; exact hr
    · rw [List.getElem?_append_left hp] at hy
      exact h2 g0 x y h0 hx hy
/-- What holds after some places. -/
structure RefInv (l : List Place) (t : List Bool) (k : Nat) (s : List (List Int) × Int) : Prop where
  flat : s.1.flatten = flatTo l t k
  seg : Seg (nextAt l) s.1
  last : ∀ a, s.1.flatten.getLast? = some a → s.2 = a ∨ (s.2 = -1 ∧ ∃ (n j : Nat) (pj : Place), a = n ∧ n < j ∧ j < k ∧ l[j]? = some pj ∧ isSeat pj = true)
  non : s.1.flatten = [] → s.2 = -1
theorem kb_of {l : List Place} (ho : orderedP l = true) {n m : Nat} {p q : Place} (hn : l[n]? = some p) (hm : l[m]? = some q) (hp : isSeat p = true) (hq : isSeat q = true) (hlt : n < m) : KB p q := by
  obtain ⟨i, hi, hie⟩ := List.getElem_of_mem (seats_iff.2 ⟨hn, hp⟩)
  obtain ⟨j, hj, hje⟩ := List.getElem_of_mem (seats_iff.2 ⟨hm, hq⟩)
  have hidx := List.pairwise_iff_getElem.1 (seats_idx l)
  have hij : i < j := by
    rcases Nat.lt_trichotomy i j with h1 | h1 | h1
    · exact h1
    · subst h1; rw [hie] at hje; cases hje; omega
    · have := hidx j i (by simpa using hj) (by simpa using hi) h1
      simp only [List.getElem_map, hie, hje] at this
      omega
  have := List.pairwise_iff_getElem.1 (seats_pw ho) i j hi hj hij
  rw [hie, hje] at this; exact this
theorem refInv {l : List Place} (t : List Bool) (hok : ∀ p ∈ l, SeatOk p) (ho : orderedP l = true) : ∀ k, k ≤ l.length → RefInv l t k (refTo l t k)
  | 0, _ => ⟨rfl, ⟨fun g hg => (by cases hg), fun g hg => (by cases hg), fun i g g' a b h => (by cases h)⟩, fun a h => (by cases h), fun _ => rfl⟩
  | k + 1, hk => by
    have ih := refInv t hok ho k (by omega)
    obtain ⟨p, hp⟩ : ∃ p, l[k]? = some p := ⟨_, List.getElem?_eq_getElem (by omega)⟩
    rw [refTo, refStep, hp]
    generalize refTo l t k = s at ih
    obtain ⟨gs, n⟩ := s
    obtain ⟨hflat, hseg, hlast, hnon⟩ := ih
    dsimp only at hflat hseg hlast hnon ⊢
    have hfs := flatTo_succ (t := t) hp
    cases hs : isSeat p with
    | false =>
      rw [if_pos rfl]
      rw [hs, Bool.false_and, if_neg (by simp), List.append_nil] at hfs
      refine ⟨by rw [hfs]; exact hflat, hseg, fun a ha => ?_, hnon⟩
      rcases hlast a ha with h | ⟨h, m, j, pj, h1, h2, h3, h4⟩
      · exact .inl h
      · exact .inr ⟨h, m, j, pj, h1, h2, by omega, h4⟩
    | true =>
      rw [if_neg (by simp)]
      cases ht : takenL t k with
      | true =>
        rw [if_pos rfl]
        rw [hs, ht, Bool.not_true, Bool.and_false, if_neg (by simp), List.append_nil] at hfs
        refine ⟨by rw [hfs]; exact hflat, hseg, fun a ha => .inr ⟨rfl, ?_⟩, fun _ => rfl⟩
        obtain ⟨m, q, h1, h2, _⟩ := flatTo_mem (l := l) (t := t) (k := k) (a := a) (by rw [← hflat]; exact List.mem_of_getLast? ha)
        exact ⟨m, k, p, h1, h2, by omega, hp, hs⟩
      | false =>
        rw [if_neg (by simp)]
        rw [hs, ht, Bool.not_false, Bool.and_self, if_pos rfl] at hfs
        cases hl : linked l n p with
        | true =>
          rw [if_pos rfl]
          rw [linked, Bool.and_eq_true, decide_eq_true_eq] at hl
          obtain ⟨hn0, hl⟩ := hl
          split at hl
          · rename_i q hq
            obtain ⟨a, ha⟩ : ∃ a, gs.flatten.getLast? = some a := by
              cases e : gs.flatten.getLast? with
              | none => have := hnon (List.getLast?_eq_none_iff.1 e); omega
              | some a => exact ⟨a, rfl⟩
            have hna : n = a := by
              rcases hlast a ha with h | ⟨h, _⟩
              · exact h
              · omega
            subst hna
            obtain ⟨h1, h2⟩ := hseg.more (b := k) ha ⟨n.toNat, k, q, p, by omega, rfl, hq, hp, hl⟩
            exact ⟨by dsimp only; rw [h2, hfs, hflat], h1, fun b hb => .inl (by dsimp only at hb ⊢; rw [h2, List.getLast?_append] at hb; simpa using hb), fun h => by dsimp only at h; rw [h2] at h; simp at h⟩
          · cases hl
        | false =>
          rw [if_neg (by simp)]
          have h2 : (gs ++ [[(k : Int)]]).flatten = gs.flatten ++ [(k : Int)] := by simp
          refine ⟨by dsimp only; rw [h2, hfs, hflat], hseg.new fun a ha => ?_, fun b hb => .inl (by dsimp only at hb ⊢; rw [h2, List.getLast?_append] at hb; simpa using hb), fun h => by dsimp only at h; rw [h2] at h; simp at h⟩
          rintro ⟨m, k', q, p', rfl, e, hq, hp', hnx⟩
          have hkk : k' = k := by omega
          subst hkk
          rw [hp] at hp'; cases hp'
          rcases hlast _ ha with h | ⟨_, m', j, pj, h3, h4, h5, h6, h7⟩
          · rw [linked, h, Int.toNat_natCast, hq, decide_eq_true (by omega), Bool.true_and] at hl
            simp only [hnx] at hl; cases hl
          · have : m' = m := by omega
            subst this
            have hqs : isSeat q = true := by
              rw [nextP_iff] at hnx; simp only [isSeat, decide_eq_true_eq]; omega
            exact next_none (hok q (List.mem_of_getElem? hq)) hnx (kb_of ho hq h6 hqs h7 h4) (kb_of ho h6 hp h7 hs h5)
theorem refFree_eq {l : List Place} (t : List Bool) (hok : ∀ p ∈ l, SeatOk p) : refFree l t = freeI l t := by
  unfold refFree
  split
  · rename_i ho
    have inv := refInv t hok ho l.length (Nat.le_refl _)
    exact inv.seg.uniq (seg_runs hok ho (List.Sublist.refl _)) (by rw [inv.flat, freeI_flat t ho, flatTo, List.take_length])
  · rename_i ho
    rw [freeI, allL, seats_ok, if_neg ho]; rfl

/- The single places. -/
def aloneL (rs : List (List Int)) : List Int := (rs.filter fun r => decide (r.length = 1)).map (·.headD 0)
def offW (was now : List Int) : List Int := now.filter fun x => !decide (x ∈ was)
theorem alone_mem {rs : List (List Int)} {x : Int} : x ∈ aloneL rs ↔ [x] ∈ rs := by
  rw [aloneL, List.mem_map]
  constructor
  · rintro ⟨r, hr, rfl⟩
    rw [List.mem_filter] at hr
    obtain ⟨h1, h2⟩ := hr
    match r, h1, h2 with
    | [y], h1, _ => exact h1
    | [], _, h2 => simp at h2
    | y :: z :: r, _, h2 => simp at h2
  · intro h; exact ⟨[x], List.mem_filter.2 ⟨h, by simp⟩, rfl⟩
theorem aloneL_snoc (ns : List (List Int)) (r : List Int) : aloneL (ns ++ [r]) = aloneL ns ++ (if r.length = 1 then [r.headD 0] else []) := by
  rw [aloneL, aloneL, List.filter_append, List.map_append]
  congr 1
  by_cases h : r.length = 1 <;> simp [h]
theorem offW_snoc (was now : List Int) (x : Int) : offW was (now ++ [x]) = offW was now ++ (if x ∈ was then [] else [x]) := by
  rw [offW, offW, List.filter_append]
  congr 1
  by_cases h : x ∈ was <;> simp [h]
theorem off_alone (was : List Int) (ns : List (List Int)) : offW was (aloneL ns) = (ns.filter fun r => decide (r.length = 1) && !decide (r.headD 0 ∈ was)).map (·.headD 0) := by
  rw [offW, aloneL, List.filter_map, List.filter_filter]
  congr 1
  apply List.filter_congr
  intro r _
  simp only [Function.comp]
  rw [Bool.and_comm]
theorem singles_ref {l : List Place} (t : List Bool) (c : List Int) (hok : ∀ p ∈ l, SeatOk p) : offW (aloneL (refFree l t)) (aloneL (refFree l (afterL l t c))) = singlesL l t c := by
  rw [refFree_eq t hok, refFree_eq _ hok, singlesL, off_alone, leftL]
  congr 1
  apply List.filter_congr
  intro r _
  have hw : wasL (freeI l t) (r.headD 0) = 1 ↔ r.headD 0 ∈ aloneL (freeI l t) := by
    rw [alone_mem]
    cases ho : orderedP l with
    | true => exact wasL_one (free_nodup t ho) (fun r hr => freeI_ne hr) _
    | false =>
      have : freeI l t = [] := by rw [freeI, allL, seats_ok, ho]; rfl
      rw [this]
      simp [wasL, bm, iget]
  congr 2
  exact decide_eq_decide.2 hw.symm
end Go.SX.Runs
