/-
  Runs: the plain law of runs.
-/
import Derived.Test.YtlahdopmiplnoaaYRO
import Derived.Test.YtlahdopmiplnoaaYR18
import Derived.Test.YtlahdopmiplnoaaYR19
import Derived.Test.YtlahdopmiplnoaaYR22
set_option linter.unusedSimpArgs false
set_option linter.unusedVariables false
set_option linter.unusedSectionVars false
namespace Go.SX.Runs
open Go Go.Proofs
theorem noTo_mem {rs : List (List Int)} {n : Int} : ∀ {i : Nat}, i ≤ rs.length → (0 < noTo rs i n ↔ n ∈ (rs.take i).flatten)
  | 0, _ => by simp [noTo]
  | i + 1, h => by
    have hr : rs[i]? = some rs[i] := List.getElem?_eq_getElem (by omega)
    have ih := noTo_mem (rs := rs) (n := n) (i := i) (by omega)
    have hle := noTo_le rs n i
    rw [noTo_succ hr, take_flat hr, List.mem_append]
    split
    · rename_i hm
      exact ⟨fun _ => .inr hm, fun _ => by omega⟩
    · rename_i hm
      rw [ih]
      exact ⟨.inl, fun h => h.resolve_right hm⟩
theorem noTo_zero {rs : List (List Int)} {n : Int} {i : Nat} (hi : i ≤ rs.length) (h : n ∉ (rs.take i).flatten) : noTo rs i n = 0 := by
  have h1 := (noTo_le rs n i).1
  have h2 : ¬ 0 < noTo rs i n := fun hp => h ((noTo_mem hi).1 hp)
  omega
theorem flat_split {rs : List (List Int)} {i : Nat} {r : List Int} (h : rs[i]? = some r) : rs.flatten = (rs.take i).flatten ++ (r ++ (rs.drop (i + 1)).flatten) := by
  obtain ⟨hi, he⟩ := List.getElem?_eq_some_iff.1 h
  have : rs = rs.take i ++ (r :: rs.drop (i + 1)) := by rw [← he, ← List.drop_eq_getElem_cons hi, List.take_append_drop]
  conv => lhs; rw [this]
  simp
theorem noTo_of {rs : List (List Int)} (hn : rs.flatten.Nodup) {i : Nat} {r : List Int} {n : Int} (hr : rs[i]? = some r) (hm : n ∈ r) : ∀ j, i < j → j ≤ rs.length → noTo rs j n = i + 1
  | 0, h, _ => by omega
  | j + 1, h, hj => by
    have hrj : rs[j]? = some rs[j] := List.getElem?_eq_getElem (by omega)
    rw [noTo_succ hrj]
    by_cases hij : i = j
    · subst hij
      rw [hr] at hrj; cases hrj
      rw [if_pos hm]
    · have ih := noTo_of hn hr hm j (by omega) (by omega)
      rw [if_neg, ih]
      intro hm2
      rw [flat_split hrj] at hn
      have hd := (List.nodup_append.1 hn).2.2
      have h1 : n ∈ (rs.take j).flatten := List.mem_flatten.2 ⟨r, List.mem_iff_getElem?.2 ⟨i, by rw [List.getElem?_take, if_pos (by omega)]; exact hr⟩, hm⟩
      exact hd n h1 n (List.mem_append_left _ hm2) rfl
theorem free_nodup {l : List Place} (t : List Bool) (ho : orderedP l = true) : (freeI l t).flatten.Nodup := by
  rw [freeI_flat t ho]
  have e : ((freeL t (seatsL l)).map fun x => (x.2 : Int)) = ((freeL t (seatsL l)).map (·.2)).map fun (j : Nat) => (j : Int) := by rw [List.map_map]; rfl
  rw [e]
  exact List.Pairwise.map _ (fun a b (h : a < b) => by omega) (free_idx l t)
theorem free_mem {l : List Place} {t : List Bool} (ho : orderedP l = true) {n : Nat} : (n : Int) ∈ (freeI l t).flatten ↔ ∃ p, l[n]? = some p ∧ isSeat p = true ∧ takenL t n = false := by
  have h := run_count t ho n
  rw [← List.count_pos_iff, h]
  split <;> simp_all
/-- The seat that follows one in a run is in that run. -/
theorem run_same {l : List Place} {t : List Bool} (hok : ∀ p ∈ l, SeatOk p) (ho : orderedP l = true) {g : List (Place × Nat)} (hg : g ∈ divideL (freeL t (seatsL l))) {p q : Place} {n m : Nat} (hp : (p, n) ∈ g) (hq : (q, m) ∈ freeL t (seatsL l)) (h : nextP p q = true) : (q, m) ∈ g := by
  have hqS := (freeL_mem.1 hq).1
  have hql := (seats_iff.1 hqS).1
  have hpF := grp_mem hg hp
  have hpS := (freeL_mem.1 hpF).1
  obtain ⟨i0, hi0⟩ := List.getElem?_of_mem hpS
  have hside := next_side hok ho hi0 hql h
  obtain ⟨k, hk⟩ := List.getElem?_of_mem hp
  have hkl := (List.getElem?_eq_some_iff.1 hk).1
  have hpwF := List.pairwise_iff_getElem.1 ((seats_pw ho).sublist (freeL_sub t (seatsL l)))
  by_cases hk1 : k + 1 < g.length
  · obtain ⟨x, hx⟩ : ∃ x, g[k + 1]? = some x := ⟨_, List.getElem?_eq_getElem hk1⟩
    have hxF := grp_mem hg (List.mem_of_getElem? hx)
    have hxS := (freeL_mem.1 hxF).1
    obtain ⟨x1, x2⟩ := x
    have hxl := (seats_iff.1 hxS).1
    have hf := (groups _).on g hg k _ _ hk hx
    have hpw := ((seats_pw ho).sublist (freeL_sub t _)).sublist (grp_sub hg)
    have hkb := List.pairwise_iff_getElem.1 hpw k (k + 1) hkl hk1 (by omega)
    rw [(List.getElem?_eq_some_iff.1 hk).2, (List.getElem?_eq_some_iff.1 hx).2] at hkb
    have hps := (seats_iff.1 hpS).2
    have hnx : nextP p x1 = true := by
      rw [follB_iff] at hf
      rw [nextP_iff]
      simp only [isSeat, decide_eq_true_eq] at hps
      simp only [KB] at hkb
      dsimp only at hf hkb
      omega
    have hs2 := next_side hok ho hi0 hxl hnx
    rw [hside] at hs2; cases hs2
    exact List.mem_of_getElem? hx
  · exfalso
    obtain ⟨i, hi, hc, hil⟩ := (groups _).last g hg
    have hgl : g.getLast? = some (p, n) := by
      rw [List.getLast?_eq_getElem?, show g.length - 1 = k by omega]; exact hk
    rw [hgl] at hi
    obtain ⟨b, hb⟩ := List.getElem?_of_mem hq
    have hbl := (List.getElem?_eq_some_iff.1 hb).1
    have hie := (List.getElem?_eq_some_iff.1 hi.symm).2
    have hbe := (List.getElem?_eq_some_iff.1 hb).2
    have hkb := next_kb h
    have hib : i < b := by
      rcases Nat.lt_trichotomy i b with h1 | h1 | h1
      · exact h1
      · subst h1; rw [hie] at hbe; cases hbe; simp only [KB] at hkb; omega
      · have := hpwF b i hbl hil h1
        rw [hie, hbe] at this
        simp only [KB] at hkb this; omega
    rcases Nat.lt_or_ge (i + 1) b with h1 | h1
    · have k1 := hpwF i (i + 1) hil (by omega) (by omega)
      have k2 := hpwF (i + 1) b (by omega) hbl h1
      rw [hie] at k1
      rw [hbe] at k2
      exact next_none (hok p (List.mem_of_getElem? (seats_iff.1 hpS).1)) h k1 k2
    · have : b = i + 1 := by omega
      subst this
      have hf : follB (q, m) (p, n) = true := by
        rw [follB_iff]
        rw [nextP_iff] at h
        dsimp only; omega
      simp only [cutAt, hb, ← hi, hf] at hc
      cases hc
theorem freeOk {l : List Place} {t : List Bool} (hok : ∀ p ∈ l, SeatOk p) (ho : orderedP l = true) : FreeOk l t (freeI l t) where
  inb r hr n hn := by
    obtain ⟨g, hg, hrg⟩ := run_mem ho hr
    obtain ⟨k, hk⟩ := List.getElem?_of_mem hn
    obtain ⟨p, j, _, rfl, h2, _, _⟩ := run_get ho hg hrg hk
    have := (List.getElem?_eq_some_iff.1 h2).1
    omega
  nxt r hr k a b p q ha hb hp hq := run_next ho hr ha hb hp hq
  new i r k n hr hn := by
    have hnd := free_nodup t ho
    rw [flat_split hr] at hnd
    obtain ⟨h1, h2, h3⟩ := List.nodup_append.1 hnd
    have hrn := (List.nodup_append.1 h2).1
    refine ⟨fun hm => ?_, noTo_zero (Nat.le_of_lt (List.getElem?_eq_some_iff.1 hr).1) fun hm => ?_⟩
    · obtain ⟨j, hj⟩ := List.getElem?_of_mem hm
      rw [List.getElem?_take] at hj
      split at hj
      · rename_i hjk
        have := (List.getElem?_inj (List.getElem?_eq_some_iff.1 hj).1 hrn).1 (hj.trans hn.symm)
        omega
      · cases hj
    · exact h3 n hm n (List.mem_append_left _ (List.mem_of_getElem? hn)) rfl
  mem n p hp := by
    have e : 0 < noTo (freeI l t) (freeI l t).length n ↔ ∃ p, l[n]? = some p ∧ isSeat p = true ∧ takenL t n = false := by
      rw [noTo_mem (Nat.le_refl _), List.take_length, free_mem ho]
    rw [Bool.eq_iff_iff, Bool.and_eq_true, decide_eq_true_eq, decide_eq_true_eq, e]
    constructor
    · rintro ⟨h1, h2⟩
      exact ⟨p, hp, by simpa [isSeat] using h1, by simpa using h2⟩
    · rintro ⟨p', h1, h2, h3⟩
      rw [hp] at h1; cases h1
      exact ⟨by simpa [isSeat] using h2, by simpa using h3⟩
  same n m p q hp hq hn hm h := by
    have hnd := free_nodup t ho
    rw [noTo_mem (Nat.le_refl _), List.take_length] at hn hm
    obtain ⟨r, hr, hnr⟩ := List.mem_flatten.1 hn
    obtain ⟨i, hi⟩ := List.getElem?_of_mem hr
    obtain ⟨g, hg, hrg⟩ := run_mem ho hr
    obtain ⟨k, hk⟩ := List.getElem?_of_mem hnr
    obtain ⟨p', j, h1, h2, h3, _, _⟩ := run_get ho hg hrg hk
    have hj : j = n := by omega
    subst hj
    rw [hp] at h3; cases h3
    obtain ⟨q', m1, m2, m3⟩ := (free_mem ho).1 hm
    rw [hq] at m1; cases m1
    have hqg := run_same hok ho hg (List.mem_of_getElem? h1) (freeL_mem.2 ⟨seats_iff.2 ⟨hq, m2⟩, m3⟩) h
    have hmr : (m : Int) ∈ r := by
      rw [hrg, runI, List.mem_map]
      exact ⟨(q, m), hqg, rfl⟩
    have hil := (List.getElem?_eq_some_iff.1 hi).1
    rw [noTo_of hnd hi hmr _ hil (Nat.le_refl _), noTo_of hnd hi hnr _ hil (Nat.le_refl _)]
theorem free_none (l : List Place) (n : Nat) : freeI l (List.replicate n false) = freeI l [] := by
  have e : ∀ S, freeL (List.replicate n false) S = freeL [] S := fun S => by
    rw [freeL_all fun x _ => ?_, freeL_all fun x _ => takenL_nil _]
    simp only [takenL, List.getD_eq_getElem?_getD, List.getElem?_replicate]
    split <;> simp
  rw [freeI, freeI, e]
end Go.SX.Runs
/-
  Runs: the plain law of single places.
-/
namespace Go.SX.Runs
open Go Go.Proofs
theorem flat_uniq {α : Type} {x : α} : ∀ {rs : List (List α)}, rs.flatten.Nodup → ∀ {r r' : List α}, r ∈ rs → r' ∈ rs → x ∈ r → x ∈ r' → r = r'
  | [], _, _, _, h, _, _, _ => by cases h
  | a :: rs, hn, r, r', h, h', hx, hx' => by
    rw [List.flatten_cons, List.nodup_append] at hn
    obtain ⟨_, h2, h3⟩ := hn
    rcases List.mem_cons.1 h with e | k
    · rcases List.mem_cons.1 h' with e' | k'
      · rw [e, e']
      · subst e
        exact absurd rfl (h3 x hx x (List.mem_flatten.2 ⟨_, k', hx'⟩))
    · rcases List.mem_cons.1 h' with e' | k'
      · subst e'
        exact absurd rfl (h3 x hx' x (List.mem_flatten.2 ⟨_, k, hx⟩))
      · exact flat_uniq h2 k k' hx hx'
theorem next_irr (p : Place) : nextP p p = false := by
  cases h : nextP p p with
  | false => rfl
  | true => rw [nextP_iff] at h; omega
theorem sideB_comm (p q : Place) : sideB p q = sideB q p := by rw [sideB, sideB, Bool.or_comm]
theorem side_same {l : List Place} {t : List Bool} (hok : ∀ p ∈ l, SeatOk p) (ho : orderedP l = true) {r : List Int} (hr : r ∈ freeI l t) {p q : Place} {n m : Nat} (hn : (n : Int) ∈ r) (hp : l[n]? = some p) (hq : l[m]? = some q) (hm : isSeat q = true) (ht : takenL t m = false) (h : nextP p q = true) : (m : Int) ∈ r := by
  obtain ⟨g, hg, hrg⟩ := run_mem ho hr
  obtain ⟨k, hk⟩ := List.getElem?_of_mem hn
  obtain ⟨p', j, h1, h2, h3, _, _⟩ := run_get ho hg hrg hk
  have : j = n := by omega
  subst this
  rw [hp] at h3; cases h3
  have := run_same hok ho hg (List.mem_of_getElem? h1) (freeL_mem.2 ⟨seats_iff.2 ⟨hq, hm⟩, ht⟩) h
  rw [hrg, runI, List.mem_map]
  exact ⟨(q, m), this, rfl⟩
/-- Both neighbours of a place of a run that are free are in that run. -/
theorem side_same2 {l : List Place} {t : List Bool} (hok : ∀ p ∈ l, SeatOk p) (ho : orderedP l = true) {r : List Int} (hr : r ∈ freeI l t) {p q : Place} {n m : Nat} (hn : (n : Int) ∈ r) (hp : l[n]? = some p) (hq : l[m]? = some q) (hm : isSeat q = true) (ht : takenL t m = false) (h : sideB p q = true) : (m : Int) ∈ r := by
  rw [sideB, Bool.or_eq_true] at h
  rcases h with h | h
  · exact side_same hok ho hr hn hp hq hm ht h
  · have hmf : (m : Int) ∈ (freeI l t).flatten := (free_mem ho).2 ⟨q, hq, hm, ht⟩
    obtain ⟨r', hr', hmr'⟩ := List.mem_flatten.1 hmf
    have hnf : (n : Int) ∈ (freeI l t).flatten := List.mem_flatten.2 ⟨r, hr, hn⟩
    obtain ⟨p', h1, h2, h3⟩ := (free_mem ho).1 hnf
    rw [hp] at h1; cases h1
    have := side_same hok ho hr' hmr' hq hp h2 h3 h
    rw [flat_uniq (free_nodup t ho) hr hr' hn this]
    exact hmr'
/-- A run has one place exactly if none beside that is free. -/
theorem single_iff {l : List Place} {t : List Bool} (hok : ∀ p ∈ l, SeatOk p) (ho : orderedP l = true) {n : Nat} : [(n : Int)] ∈ freeI l t ↔ ∃ p, l[n]? = some p ∧ isSeat p = true ∧ takenL t n = false ∧ ∀ (m : Nat) q, l[m]? = some q → isSeat q = true → takenL t m = false → sideB p q = false := by
  constructor
  · intro hr
    obtain ⟨p, h1, h2, h3⟩ := (free_mem ho).1 (List.mem_flatten.2 ⟨_, hr, List.mem_singleton.2 rfl⟩)
    refine ⟨p, h1, h2, h3, fun m q hq hm ht => ?_⟩
    cases hs : sideB p q with
    | false => rfl
    | true =>
      have := side_same2 hok ho hr (List.mem_singleton.2 rfl) h1 hq hm ht hs
      have : m = n := by have := List.mem_singleton.1 this; omega
      subst this
      rw [h1] at hq; cases hq
      rw [sideB, next_irr] at hs
      cases hs
  · rintro ⟨p, h1, h2, h3, h4⟩
    obtain ⟨r, hr, hn⟩ := List.mem_flatten.1 ((free_mem ho).2 ⟨p, h1, h2, h3⟩)
    obtain ⟨k, hk⟩ := List.getElem?_of_mem hn
    have hkl := (List.getElem?_eq_some_iff.1 hk).1
    have other : ∀ (i : Nat) (b : Int), r[i]? = some b → ∃ (m : Nat) (q : Place), b = (m : Int) ∧ l[m]? = some q ∧ isSeat q = true ∧ takenL t m = false := fun i b hb => by
      obtain ⟨g, hg, hrg⟩ := run_mem ho hr
      obtain ⟨q, m, _, k2, k3, k4, k5⟩ := run_get ho hg hrg hb
      exact ⟨m, q, k2, k3, k4, k5⟩
    have e1 : ¬ k + 1 < r.length := fun h => by
      obtain ⟨b, hb⟩ : ∃ b, r[k + 1]? = some b := ⟨_, List.getElem?_eq_getElem h⟩
      obtain ⟨m, q, rfl, k3, k4, k5⟩ := other _ b hb
      have hx := run_next ho hr hk hb (p := p) (q := q) (by simpa using h1) (by simpa using k3)
      have := h4 m q k3 k4 k5
      rw [sideB, hx] at this; cases this
    have e2 : k = 0 := by
      rcases Nat.eq_zero_or_pos k with h | h
      · exact h
      · exfalso
        obtain ⟨b, hb⟩ : ∃ b, r[k - 1]? = some b := ⟨_, List.getElem?_eq_getElem (by omega)⟩
        obtain ⟨m, q, rfl, k3, k4, k5⟩ := other _ b hb
        have hx := run_next ho hr hb (by rw [show k - 1 + 1 = k by omega]; exact hk) (p := q) (q := p) (by simpa using k3) (by simpa using h1)
        have := h4 m q k3 k4 k5
        rw [sideB, hx, Bool.or_true] at this; cases this
    subst e2
    match r, hk, e1, hr with
    | [x], hk, _, hr =>
      have hx : x = (n : Int) := by simpa using hk
      rw [hx] at hr
      exact hr
    | [], hk, _, _ => cases hk
    | x :: y :: r, _, e1, _ => simp at e1
theorem iget_fold (x v : Int) : ∀ (rs : List (List Int)) (m : List (Int × Int)), rs.Pairwise (fun r r' => r.headD 0 ≠ r'.headD 0) → (iget (rs.foldl (fun m r => iput m (r.headD 0) r.length) m) x = some v ↔ (∃ r ∈ rs, r.headD 0 = x ∧ v = r.length) ∨ ((∀ r ∈ rs, r.headD 0 ≠ x) ∧ iget m x = some v))
  | [], m, _ => by simp
  | r :: rs, m, h => by
    obtain ⟨h1, h2⟩ := List.pairwise_cons.1 h
    rw [List.foldl_cons, iget_fold x v rs _ h2, iget_iput]
    constructor
    · rintro (⟨r', h3, h4, h5⟩ | ⟨h3, h4⟩)
      · exact .inl ⟨r', List.mem_cons_of_mem _ h3, h4, h5⟩
      · split at h4
        · rename_i e
          exact .inl ⟨r, List.mem_cons_self, e.symm, by simpa using h4.symm⟩
        · rename_i e
          refine .inr ⟨fun r' hr' => ?_, h4⟩
          rcases List.mem_cons.1 hr' with rfl | hr'
          · exact fun e2 => e e2.symm
          · exact h3 r' hr'
    · rintro (⟨r', h3, h4, h5⟩ | ⟨h3, h4⟩)
      · rcases List.mem_cons.1 h3 with rfl | h3
        · refine .inr ⟨fun r'' h6 e => h1 r'' h6 (h4.trans e.symm), ?_⟩
          rw [if_pos h4.symm, h5]
        · exact .inl ⟨r', h3, h4, h5⟩
      · refine .inr ⟨fun r' hr' => h3 r' (List.mem_cons_of_mem _ hr'), ?_⟩
        rw [if_neg (fun e => h3 r List.mem_cons_self e.symm)]
        exact h4
theorem heads_pw : ∀ {rs : List (List Int)}, rs.flatten.Nodup → (∀ r ∈ rs, r ≠ []) → rs.Pairwise (fun r r' => r.headD 0 ≠ r'.headD 0)
  | [], _, _ => .nil
  | a :: rs, hn, hne => by
    rw [List.flatten_cons, List.nodup_append] at hn
    obtain ⟨_, h2, h3⟩ := hn
    have mem : ∀ r : List Int, r ≠ [] → r.headD 0 ∈ r := fun r hr => by
      cases r with
      | nil => exact absurd rfl hr
      | cons x r => exact List.mem_cons_self
    refine List.pairwise_cons.2 ⟨fun r hr e => ?_, heads_pw h2 fun r hr => hne r (List.mem_cons_of_mem _ hr)⟩
    refine h3 _ (mem a (hne a List.mem_cons_self)) _ (List.mem_flatten.2 ⟨r, hr, mem r (hne r (List.mem_cons_of_mem _ hr))⟩) e
theorem wasL_one {rs : List (List Int)} (hn : rs.flatten.Nodup) (hne : ∀ r ∈ rs, r ≠ []) (x : Int) : wasL rs x = 1 ↔ [x] ∈ rs := by
  have h := fun v => iget_fold x v rs [] (heads_pw hn hne)
  rw [wasL]
  constructor
  · intro e
    cases hg : iget (bm rs) x with
    | none => rw [hg] at e; cases e
    | some v =>
      rw [hg] at e
      have hv : v = 1 := e
      subst hv
      rcases (h 1).1 hg with ⟨r, h1, h2, h3⟩ | ⟨_, h2⟩
      · match r, h1, h2, h3 with
        | [y], h1, h2, _ => rw [← h2]; exact h1
        | [], h1, _, _ => exact absurd rfl (hne _ h1)
        | y :: z :: r, _, _, h3 => simp at h3; omega
      · cases h2
  · intro hm
    have : iget (bm rs) x = some 1 := (h 1).2 (.inl ⟨[x], hm, rfl, rfl⟩)
    rw [this]; rfl
theorem leftL_mem {rs ns : List (List Int)} {x : Int} : x ∈ leftL rs ns ↔ [x] ∈ ns ∧ wasL rs x ≠ 1 := by
  rw [leftL, List.mem_map]
  constructor
  · rintro ⟨r, hr, rfl⟩
    rw [List.mem_filter] at hr
    obtain ⟨h1, h2⟩ := hr
    match r, h1, h2 with
    | [y], h1, h2 => exact ⟨h1, by simpa using h2⟩
    | [], _, h2 => simp at h2
    | y :: z :: r, _, h2 => simp at h2
  · rintro ⟨h1, h2⟩
    exact ⟨[x], List.mem_filter.2 ⟨h1, by simpa using h2⟩, rfl⟩
theorem singles_mem {l : List Place} {t : List Bool} {c : List Int} (ho : orderedP l = true) {x : Int} : x ∈ singlesL l t c ↔ [x] ∈ freeI l (afterL l t c) ∧ [x] ∉ freeI l t := by
  rw [singlesL, leftL_mem, Ne, wasL_one (free_nodup t ho) fun r hr => freeI_ne hr]
theorem leftL_sub (rs : List (List Int)) : ∀ ns, (leftL rs ns).Sublist ns.flatten
  | [] => List.Sublist.slnil
  | r :: ns => by
    have ih := leftL_sub rs ns
    rw [leftL] at ih ⊢
    rw [List.filter_cons, List.flatten_cons]
    split
    · rename_i h
      match r, h with
      | [y], _ => exact ih.cons_cons y
      | [], h => simp at h
      | y :: z :: r, h => simp at h
    · exact ih.trans (List.sublist_append_right _ _)
theorem flat_asc {l : List Place} (t : List Bool) (ho : orderedP l = true) : (freeI l t).flatten.Pairwise (· < ·) := by
  rw [freeI_flat t ho]
  have e : ((freeL t (seatsL l)).map fun x => (x.2 : Int)) = ((freeL t (seatsL l)).map (·.2)).map fun (j : Nat) => (j : Int) := by rw [List.map_map]; rfl
  rw [e]
  exact List.Pairwise.map _ (fun a b (h : a < b) => by omega) (free_idx l t)
theorem pw_step {L : List Int} (h : L.Pairwise (· < ·)) {i : Nat} {a b : Int} (ha : L[i]? = some a) (hb : L[i + 1]? = some b) : a < b := by
  obtain ⟨h1, rfl⟩ := List.getElem?_eq_some_iff.1 ha
  obtain ⟨h2, rfl⟩ := List.getElem?_eq_some_iff.1 hb
  exact List.pairwise_iff_getElem.1 h i (i + 1) h1 h2 (by omega)
theorem after_get {l : List Place} {t : List Bool} {c : List Int} {n : Nat} (h : n < l.length) : (afterL l t c)[n]? = some (takenL t n || decide ((n : Int) ∈ c)) := by
  rw [afterL, List.getElem?_map, List.getElem?_range h]; rfl
theorem after_taken {l : List Place} {t : List Bool} {c : List Int} {n : Nat} (h : n < l.length) : takenL (afterL l t c) n = (takenL t n || decide ((n : Int) ∈ c)) := by
  rw [takenL, List.getD_eq_getElem?_getD, Int.toNat_natCast, after_get h]; simp
theorem besTo_of {l : List Place} {t : List Bool} {p q : Place} {m : Nat} (hq : l[m]? = some q) (hs : sideB p q = true) (hr : 0 ≤ q.row) (ht : takenL t m = false) : ∀ k, m < k → besTo l t p k = true
  | 0, h => by omega
  | k + 1, h => by
    rw [besTo]
    by_cases e : m = k
    · subst e
      rw [hq]; simp [hs, hr, ht]
    · rw [besTo_of hq hs hr ht k (by omega)]; rfl
theorem nat_of_single {l : List Place} {t : List Bool} (ho : orderedP l = true) {x : Int} (h : [x] ∈ freeI l t) : ∃ n : Nat, x = n := by
  obtain ⟨g, hg, hrg⟩ := run_mem ho h
  obtain ⟨_, j, _, h2, _⟩ := run_get ho hg hrg (k := 0) (a := x) rfl
  exact ⟨j, h2⟩
theorem leftOk {l : List Place} {t : List Bool} {c : List Int} (hok : ∀ p ∈ l, SeatOk p) (ho : orderedP l = true) : LeftOk l t (afterL l t c) (singlesL l t c) where
  inb x hx := by
    have h := ((singles_mem ho).1 hx).1
    obtain ⟨n, rfl⟩ := nat_of_single ho h
    obtain ⟨p, h1, _⟩ := (single_iff hok ho).1 h
    have := (List.getElem?_eq_some_iff.1 h1).1
    omega
  fre x hx := by
    have h := ((singles_mem ho).1 hx).1
    obtain ⟨n, rfl⟩ := nat_of_single ho h
    obtain ⟨p, h1, _, h3, _⟩ := (single_iff hok ho).1 h
    have hl := (List.getElem?_eq_some_iff.1 h1).1
    rw [after_taken hl] at h3
    rw [Int.toNat_natCast, after_get hl, h3]
  asc i a b ha hb := pw_step ((flat_asc _ ho).sublist (leftL_sub _ _)) ha hb
  side x hx p m q hp hq hs hr := by
    have h := ((singles_mem ho).1 hx).1
    obtain ⟨n, rfl⟩ := nat_of_single ho h
    obtain ⟨p', h1, h2, h3, h4⟩ := (single_iff hok ho).1 h
    rw [Int.toNat_natCast] at hp
    rw [h1] at hp; cases hp
    have hl := (List.getElem?_eq_some_iff.1 hq).1
    rw [after_get hl, ← after_taken hl]
    cases ht : takenL (afterL l t c) m with
    | true => rfl
    | false =>
      have := h4 m q hq (by simpa [isSeat] using hr) ht
      rw [hs] at this; cases this
  bes x hx p hp := by
    obtain ⟨h, hno⟩ := (singles_mem ho).1 hx
    obtain ⟨n, rfl⟩ := nat_of_single ho h
    obtain ⟨p', h1, h2, h3, h4⟩ := (single_iff hok ho).1 h
    rw [Int.toNat_natCast] at hp
    rw [h1] at hp; cases hp
    have hl := (List.getElem?_eq_some_iff.1 h1).1
    rw [after_taken hl, Bool.or_eq_false_iff] at h3
    apply Classical.byContradiction
    intro hb
    refine hno ((single_iff hok ho).2 ⟨p, h1, h2, h3.1, fun m q hq hm ht => ?_⟩)
    cases hs : sideB p q with
    | false => rfl
    | true => exact absurd (besTo_of hq hs (by simpa [isSeat] using hm) ht _ (List.getElem?_eq_some_iff.1 hq).1) hb
end Go.SX.Runs
/-
  Runs: the plain law of places that are chosen together.
-/
namespace Go.SX.Runs
open Go Go.Proofs
/-- A sorted choice that stands together. -/
structure Tg (l : List Place) (c : List Int) : Prop where
  ok : seatsOk l = true
  ne : c ≠ []
  inb : ∀ x ∈ c, 0 ≤ x ∧ x < l.length
  up : ∀ i a b, c[i]? = some a → c[i + 1]? = some b → a < b
  adj : ∀ i, i + 1 < c.length → adjAt l c (i + 1) = true
theorem pw_of_up {c : List Int} (h : ∀ (i : Nat) a b, c[i]? = some a → c[i + 1]? = some b → a < b) : c.Pairwise (· < ·) := by
  induction c with
  | nil => exact .nil
  | cons x c ih =>
    have ih := ih fun i a b ha hb => h (i + 1) a b ha hb
    refine List.pairwise_cons.2 ⟨fun y hy => ?_, ih⟩
    match c, ih, hy, h with
    | z :: c, ih, hy, h =>
      have h1 := h 0 x z rfl rfl
      rcases List.mem_cons.1 hy with rfl | hy
      · exact h1
      · have := (List.pairwise_cons.1 ih).1 y hy
        omega
theorem Tg.le {l : List Place} {c : List Int} (h : Tg l c) : c.Pairwise (· ≤ ·) := (pw_of_up h.up).imp fun h => Int.le_of_lt h
theorem tg_of {l : List Place} {c : List Int} (hs : c.Pairwise (· ≤ ·)) (h : togL l c = true) : Tg l c := by
  rw [togL, Bool.and_eq_true, Bool.and_eq_true] at h
  obtain ⟨h1, h2, h3⟩ := h
  rw [fitL] at h2
  split at h2
  · rename_i a b ha hb
    simp only [Bool.and_eq_true, decide_eq_true_eq] at h2
    obtain ⟨k1, k2, k3⟩ := h2
    have hpw := List.pairwise_iff_getElem.1 hs
    have hne : 0 < c.length := (List.getElem?_eq_some_iff.1 ha).1
    obtain ⟨ha1, ha2⟩ := List.getElem?_eq_some_iff.1 ha
    obtain ⟨hb1, hb2⟩ := List.getElem?_eq_some_iff.1 hb
    have hcl := (cmpTo_len c c.length (Nat.le_refl _)).1 k3
    refine ⟨h1, List.length_pos_iff.1 hne, fun x hx => ?_, fun i x y hx hy => ?_, fun i hi => ?_⟩
    · obtain ⟨j, hj⟩ := List.getElem?_of_mem hx
      obtain ⟨hj1, hj2⟩ := List.getElem?_eq_some_iff.1 hj
      have e1 : a ≤ x := by
        rcases Nat.eq_zero_or_pos j with h0 | h0
        · subst h0; rw [ha] at hj; cases hj; exact Int.le_refl _
        · have := hpw 0 j ha1 hj1 h0
          rw [ha2, hj2] at this; exact this
      have e2 : x ≤ b := by
        by_cases h0 : j = c.length - 1
        · subst h0; rw [hb] at hj; cases hj; exact Int.le_refl _
        · have := hpw j (c.length - 1) hj1 hb1 (by omega)
          rw [hb2, hj2] at this; exact this
      omega
    · obtain ⟨hx1, hx2⟩ := List.getElem?_eq_some_iff.1 hx
      obtain ⟨hy1, hy2⟩ := List.getElem?_eq_some_iff.1 hy
      have e1 := hpw i (i + 1) hx1 hy1 (by omega)
      rw [hx2, hy2] at e1
      have e2 := hcl (i + 1) (by omega) hy1
      rw [hy, show i + 1 - 1 = i by omega, hx] at e2
      have : x ≠ y := fun e => e2 (by rw [e])
      omega
    · have := List.all_eq_true.1 h3 (i + 1) (by simpa using hi)
      simpa using this
  · cases h2
theorem tog_of {l : List Place} {c : List Int} (h : Tg l c) : togL l c = true := by
  have hne : 0 < c.length := List.length_pos_iff.2 h.ne
  rw [togL, h.ok, Bool.true_and, Bool.and_eq_true]
  constructor
  · obtain ⟨a, ha⟩ : ∃ a, c[0]? = some a := ⟨_, List.getElem?_eq_getElem hne⟩
    obtain ⟨b, hb⟩ : ∃ b, c[c.length - 1]? = some b := ⟨_, List.getElem?_eq_getElem (by omega)⟩
    have hl : (compL c).length = c.length := (cmpTo_len c c.length (Nat.le_refl _)).2 fun i h0 h1 e => by
      have hx : c[i - 1]? = some c[i - 1] := List.getElem?_eq_getElem (by omega)
      have := h.up (i - 1) _ _ hx (by rw [show i - 1 + 1 = i by omega, e]; exact hx)
      omega
    rw [fitL, ha, hb]
    simp only [Bool.and_eq_true, decide_eq_true_eq]
    exact ⟨(h.inb a (List.mem_of_getElem? ha)).1, (h.inb b (List.mem_of_getElem? hb)).2, hl⟩
  · rw [List.all_eq_true]
    intro i hi
    rw [List.mem_range] at hi
    rcases Nat.eq_zero_or_pos i with h0 | h0
    · simp [h0]
    · have := h.adj (i - 1) (by omega)
      rw [show i - 1 + 1 = i by omega] at this
      simp [this]
theorem Tg.part {l : List Place} {c : List Int} (h : Tg l c) {a b : Nat} (hab : a < b) (hb : b ≤ c.length) : Tg l ((c.take b).drop a) := by
  have get : ∀ i x, ((c.take b).drop a)[i]? = some x → c[a + i]? = some x := fun i x hx => by
    rw [List.getElem?_drop, List.getElem?_take] at hx
    split at hx
    · exact hx
    · cases hx
  have len : ((c.take b).drop a).length = b - a := by rw [List.length_drop, List.length_take]; omega
  have get2 : ∀ i, i < b - a → ((c.take b).drop a)[i]? = c[a + i]? := fun i hi => by
    rw [List.getElem?_drop, List.getElem?_take, if_pos (by omega)]
  refine ⟨h.ok, fun e => ?_, fun x hx => h.inb x (List.mem_of_mem_take (List.mem_of_mem_drop hx)), fun i x y hx hy => h.up (a + i) x y (get i x hx) (get (i + 1) y hy), fun i hi => ?_⟩
  · rw [e] at len; simp at len; omega
  · rw [len] at hi
    have := h.adj (a + i) (by omega)
    rw [adjAt] at this ⊢
    rw [show i + 1 - 1 = i by omega, get2 i (by omega), get2 (i + 1) hi]
    exact this
theorem tog_iff (l : List Place) (c : List Int) : togetherL l c = true ↔ Tg l (sortL c) := ⟨fun h => tg_of (sortL_pw c) h, fun h => tog_of h⟩
theorem tog_self {l : List Place} {c : List Int} (h : Tg l c) : togetherL l c = true := by
  rw [tog_iff, sortL_eq (List.Perm.refl c) h.le]; exact h
theorem fold_min (c : List Int) : ∀ a : Int, (c.foldl min a = a ∨ c.foldl min a ∈ c) ∧ c.foldl min a ≤ a ∧ ∀ x ∈ c, c.foldl min a ≤ x := by
  induction c with
  | nil => intro a; exact ⟨.inl rfl, Int.le_refl _, fun x hx => by cases hx⟩
  | cons y c ih =>
    intro a
    obtain ⟨h1, h2, h3⟩ := ih (min a y)
    rw [List.foldl_cons]
    refine ⟨?_, by omega, fun x hx => ?_⟩
    · rcases h1 with h1 | h1
      · rcases Int.le_total a y with h | h
        · left; rw [h1]; omega
        · right; rw [h1, show min a y = y by omega]; exact List.mem_cons_self
      · right; exact List.mem_cons_of_mem _ h1
    · rcases List.mem_cons.1 hx with rfl | hx
      · omega
      · exact h3 x hx
theorem fold_max (c : List Int) : ∀ a : Int, (c.foldl max a = a ∨ c.foldl max a ∈ c) ∧ a ≤ c.foldl max a ∧ ∀ x ∈ c, x ≤ c.foldl max a := by
  induction c with
  | nil => intro a; exact ⟨.inl rfl, Int.le_refl _, fun x hx => by cases hx⟩
  | cons y c ih =>
    intro a
    obtain ⟨h1, h2, h3⟩ := ih (max a y)
    rw [List.foldl_cons]
    refine ⟨?_, by omega, fun x hx => ?_⟩
    · rcases h1 with h1 | h1
      · rcases Int.le_total a y with h | h
        · right; rw [h1, show max a y = y by omega]; exact List.mem_cons_self
        · left; rw [h1]; omega
      · right; exact List.mem_cons_of_mem _ h1
    · rcases List.mem_cons.1 hx with rfl | hx
      · omega
      · exact h3 x hx
theorem head_mem {c : List Int} (h : c ≠ []) : c.headD 0 ∈ c := by
  cases c with
  | nil => exact absurd rfl h
  | cons x c => exact List.mem_cons_self
theorem min_spec {c : List Int} (h : c ≠ []) : minTo c c.length ∈ c ∧ ∀ x ∈ c, minTo c c.length ≤ x := by
  rw [minTo, List.take_length]
  obtain ⟨h1, _, h3⟩ := fold_min c (c.headD 0)
  refine ⟨?_, h3⟩
  rcases h1 with h1 | h1
  · rw [h1]; exact head_mem h
  · exact h1
theorem max_spec {c : List Int} (h : c ≠ []) : maxTo c c.length ∈ c ∧ ∀ x ∈ c, x ≤ maxTo c c.length := by
  rw [maxTo, List.take_length]
  obtain ⟨h1, _, h3⟩ := fold_max c (c.headD 0)
  refine ⟨?_, h3⟩
  rcases h1 with h1 | h1
  · rw [h1]; exact head_mem h
  · exact h1
theorem off_none {c : List Int} {m : Int} (h : m ∉ c) : offL c m = c := List.filter_eq_self.2 fun x hx => by
  simp only [Bool.not_eq_true', decide_eq_false_iff_not]
  exact fun e => h (e ▸ hx)
/-- Without the least one. -/
theorem off_min {s : List Int} (hp : s.Pairwise (· < ·)) {m : Int} (hm : m ∈ s) (hl : ∀ x ∈ s, m ≤ x) : offL s m = (s.take s.length).drop 1 := by
  rw [List.take_length]
  match s, hp, hm, hl with
  | x :: s, hp, hm, hl =>
    obtain ⟨h1, _⟩ := List.pairwise_cons.1 hp
    have e : m = x := by
      rcases List.mem_cons.1 hm with h | h
      · exact h
      · have k1 := h1 m h
        have k2 := hl x List.mem_cons_self
        omega
    subst e
    rw [List.drop_succ_cons, List.drop_zero, offL, List.filter_cons, if_neg (by simp)]
    exact off_none fun h => by have := h1 m h; omega
/-- Without the greatest one. -/
theorem off_max {s : List Int} (hp : s.Pairwise (· < ·)) {m : Int} (hm : m ∈ s) (hl : ∀ x ∈ s, x ≤ m) : offL s m = (s.take (s.length - 1)).drop 0 := by
  rw [List.drop_zero]
  have hne : 0 < s.length := List.length_pos_iff.2 fun e => by rw [e] at hm; cases hm
  have hpw := List.pairwise_iff_getElem.1 hp
  have hx : s[s.length - 1]? = some s[s.length - 1] := List.getElem?_eq_getElem (by omega)
  have e : m = s[s.length - 1] := by
    obtain ⟨j, hj1, hj2⟩ := List.getElem_of_mem hm
    have k2 := hl _ (List.mem_of_getElem? hx)
    by_cases h : j = s.length - 1
    · subst h; exact hj2.symm
    · have := hpw j (s.length - 1) hj1 (by omega) (by omega)
      omega
  have hs : s = s.take (s.length - 1) ++ [m] := by
    have := take_succ_eq hx
    rw [show s.length - 1 + 1 = s.length by omega, List.take_length, ← e] at this
    exact this
  have hno : m ∉ s.take (s.length - 1) := fun h => by
    rw [hs] at hp
    have := (List.pairwise_append.1 hp).2.2 m h m (List.mem_singleton.2 rfl)
    omega
  conv => lhs; rw [hs]
  rw [offL_snoc, if_neg (by simp), List.append_nil, off_none hno]
theorem sort_off {l : List Place} {c : List Int} {m : Int} (h : Tg l (sortL c)) : sortL (offL c m) = offL (sortL c) m := by
  refine sortL_eq ((sortL_perm c).filter _) ?_
  exact h.le.sublist List.filter_sublist
theorem sort_mem {c : List Int} {x : Int} : x ∈ sortL c ↔ x ∈ c := (sortL_perm c).mem_iff
theorem adj_of {p q : Place} (hp : isSeat p = true) (hq : isSeat q = true) (h : nextP p q = true) : adjOk p q = true := by
  rw [nextP_iff] at h
  simp only [isSeat, decide_eq_true_eq] at hp hq
  rw [adjOk, Bool.or_eq_true]
  right
  have e1 : ¬ p.row < 0 := by omega
  have e2 : ¬ q.row < 0 := by omega
  simp only [e1, e2, decide_false, Bool.not_false, Bool.true_and, decide_eq_true_eq, orderP_eq, Place.next]
  omega
theorem run_tg {l : List Place} {t : List Bool} (ho : orderedP l = true) {r : List Int} (hr : r ∈ freeI l t) : Tg l r := by
  have nat : ∀ x ∈ r, ∃ (n : Nat) (p : Place), x = n ∧ l[n]? = some p ∧ isSeat p = true := fun x hx => by
    obtain ⟨g, hg, hrg⟩ := run_mem ho hr
    obtain ⟨k, hk⟩ := List.getElem?_of_mem hx
    obtain ⟨p, j, _, h2, h3, h4, _⟩ := run_get ho hg hrg hk
    exact ⟨j, p, h2, h3, h4⟩
  refine ⟨by rw [seats_ok]; exact ho, freeI_ne hr, fun x hx => ?_, fun i a b ha hb => pw_step ((flat_asc t ho).sublist (List.sublist_flatten_of_mem hr)) ha hb, fun i hi => ?_⟩
  · obtain ⟨n, p, rfl, h1, _⟩ := nat x hx
    have := (List.getElem?_eq_some_iff.1 h1).1
    omega
  · obtain ⟨a, ha⟩ : ∃ a, r[i]? = some a := ⟨_, List.getElem?_eq_getElem (by omega)⟩
    obtain ⟨b, hb⟩ : ∃ b, r[i + 1]? = some b := ⟨_, List.getElem?_eq_getElem hi⟩
    obtain ⟨n, p, rfl, h1, h2⟩ := nat a (List.mem_of_getElem? ha)
    obtain ⟨m, q, rfl, k1, k2⟩ := nat b (List.mem_of_getElem? hb)
    have hn := run_next ho hr ha hb (p := p) (q := q) (by simpa using h1) (by simpa using k1)
    rw [adjAt, show i + 1 - 1 = i by omega, ha, hb]
    simp only [Int.toNat_natCast, h1, k1]
    exact adj_of h2 k2 hn
theorem togOk {l : List Place} {t : List Bool} {c : List Int} (ho : orderedP l = true) : TogOk l t c where
  back := by rw [togetherL, togetherL, sortL_same (List.reverse_perm c)]
  high h hl := by
    rw [tog_iff] at h
    have hne : c ≠ [] := fun e => by rw [e] at hl; cases hl
    obtain ⟨h1, h2⟩ := min_spec hne
    have hlen := (sortL_perm c).length_eq
    rw [tog_iff, sort_off h, off_min (pw_of_up h.up) (sort_mem.2 h1) fun x hx => h2 x (sort_mem.1 hx)]
    exact h.part (by omega) (Nat.le_refl _)
  low h hl := by
    rw [tog_iff] at h
    have hne : c ≠ [] := fun e => by rw [e] at hl; cases hl
    obtain ⟨h1, h2⟩ := max_spec hne
    have hlen := (sortL_perm c).length_eq
    rw [tog_iff, sort_off h, off_max (pw_of_up h.up) (sort_mem.2 h1) fun x hx => h2 x (sort_mem.1 hx)]
    exact h.part (by omega) (by omega)
  part r hr a b hab hb := tog_self ((run_tg ho hr).part (by omega) (by omega))
end Go.SX.Runs
