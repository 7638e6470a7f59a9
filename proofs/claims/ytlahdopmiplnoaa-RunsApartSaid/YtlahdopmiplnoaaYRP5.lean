/-
  Runs: the plain law of runs.
-/
import Derived.Test.YtlahdopmiplnoaaYRO
import Derived.Test.YtlahdopmiplnoaaYR18
import Derived.Test.YtlahdopmiplnoaaYR19
import Derived.Test.YtlahdopmiplnoaaYR21
namespace Go.SX.Runs
open Go Go.Proofs
theorem noTo_mem {rs : List (List Int)} {n : Int} : ∀ {i : Nat}, i ≤ rs.length → (0 < noTo rs i n ↔ n ∈ (rs.take i).flatten)
  | 0, _ => by simp [noTo]
  | i + 1, h => by
    have hr : rs[i]? = some rs[i] := List.getElem?_eq_getElem (by omega)
    have ih := noTo_mem (rs := rs) (n := n) (i := i) (by omega)
    have hle := noTo_le rs n i
    rw [noTo_succ hr, take_flat hr, List.mem_append]
    split
    · rename_i hm
      exact ⟨fun _ => .inr hm, fun _ => by omega⟩
    · rename_i hm
      rw [ih]
      exact ⟨.inl, fun h => h.resolve_right hm⟩
theorem noTo_zero {rs : List (List Int)} {n : Int} {i : Nat} (hi : i ≤ rs.length) (h : n ∉ (rs.take i).flatten) : noTo rs i n = 0 := by
  have h1 := (noTo_le rs n i).1
  have h2 : ¬ 0 < noTo rs i n := fun hp => h ((noTo_mem hi).1 hp)
  omega
theorem flat_split {rs : List (List Int)} {i : Nat} {r : List Int} (h : rs[i]? = some r) : rs.flatten = (rs.take i).flatten ++ (r ++ (rs.drop (i + 1)).flatten) := by
  obtain ⟨hi, he⟩ := List.getElem?_eq_some_iff.1 h
  have : rs = rs.take i ++ (r :: rs.drop (i + 1)) := by rw [← he, ← List.drop_eq_getElem_cons hi, List.take_append_drop]
  conv => lhs; rw [this]
  simp
theorem noTo_of {rs : List (List Int)} (hn : rs.flatten.Nodup) {i : Nat} {r : List Int} {n : Int} (hr : rs[i]? = some r) (hm : n ∈ r) : ∀ j, i < j → j ≤ rs.length → noTo rs j n = i + 1
  | 0, h, _ => by omega
  | j + 1, h, hj => by
    have hrj : rs[j]? = some rs[j] := List.getElem?_eq_getElem (by omega)
    rw [noTo_succ hrj]
    by_cases hij : i = j
    · subst hij
      rw [hr] at hrj; cases hrj
      rw [if_pos hm]
    · have ih := noTo_of hn hr hm j (by omega) (by omega)
      rw [if_neg, ih]
      intro hm2
      rw [flat_split hrj] at hn
      have hd := (List.nodup_append.1 hn).2.2
      have h1 : n ∈ (rs.take j).flatten := List.mem_flatten.2 ⟨r, List.mem_iff_getElem?.2 ⟨i, by rw [List.getElem?_take, if_pos (by omega)]; exact hr⟩, hm⟩
      exact hd n h1 n (List.mem_append_left _ hm2) rfl
theorem free_nodup {l : List Place} (t : List Bool) (ho : orderedP l = true) : (freeI l t).flatten.Nodup := by
  rw [freeI_flat t ho]
  have e : ((freeL t (seatsL l)).map fun x => (x.2 : Int)) = ((freeL t (seatsL l)).map (·.2)).map fun (j : Nat) => (j : Int) := by rw [List.map_map]; rfl
  rw [e]
  exact List.Pairwise.map _ (fun a b (h : a < b) => by omega) (free_idx l t)
theorem free_mem {l : List Place} {t : List Bool} (ho : orderedP l = true) {n : Nat} : (n : Int) ∈ (freeI l t).flatten ↔ ∃ p, l[n]? = some p ∧ isSeat p = true ∧ takenL t n = false := by
  have h := run_count t ho n
  rw [← List.count_pos_iff, h]
  split <;> simp_all
/-- The seat that follows one in a run is in that run. -/
theorem run_same {l : List Place} {t : List Bool} (hok : ∀ p ∈ l, SeatOk p) (ho : orderedP l = true) {g : List (Place × Nat)} (hg : g ∈ divideL (freeL t (seatsL l))) {p q : Place} {n m : Nat} (hp : (p, n) ∈ g) (hq : (q, m) ∈ freeL t (seatsL l)) (h : nextP p q = true) : (q, m) ∈ g := by
  have hqS := (freeL_mem.1 hq).1
  have hql := (seats_iff.1 hqS).1
  have hpF := grp_mem hg hp
  have hpS := (freeL_mem.1 hpF).1
  obtain ⟨i0, hi0⟩ := List.getElem?_of_mem hpS
  have hside := next_side hok ho hi0 hql h
  obtain ⟨k, hk⟩ := List.getElem?_of_mem hp
  have hkl := (List.getElem?_eq_some_iff.1 hk).1
  have hpwF := List.pairwise_iff_getElem.1 ((seats_pw ho).sublist (freeL_sub t (seatsL l)))
  by_cases hk1 : k + 1 < g.length
  · obtain ⟨x, hx⟩ : ∃ x, g[k + 1]? = some x := ⟨_, List.getElem?_eq_getElem hk1⟩
    have hxF := grp_mem hg (List.mem_of_getElem? hx)
    have hxS := (freeL_mem.1 hxF).1
    obtain ⟨x1, x2⟩ := x
    have hxl := (seats_iff.1 hxS).1
    have hf := (groups _).on g hg k _ _ hk hx
    have hpw := ((seats_pw ho).sublist (freeL_sub t _)).sublist (grp_sub hg)
    have hkb := List.pairwise_iff_getElem.1 hpw k (k + 1) hkl hk1 (by omega)
    rw [(List.getElem?_eq_some_iff.1 hk).2, (List.getElem?_eq_some_iff.1 hx).2] at hkb
    have hps := (seats_iff.1 hpS).2
    have hnx : nextP p x1 = true := by
      rw [follB_iff] at hf
      rw [nextP_iff]
      simp only [isSeat, decide_eq_true_eq] at hps
      simp only [KB] at hkb
      dsimp only at hf hkb
      omega
    have hs2 := next_side hok ho hi0 hxl hnx
    rw [hside] at hs2; cases hs2
    exact List.mem_of_getElem? hx
  · exfalso
    obtain ⟨i, hi, hc, hil⟩ := (groups _).last g hg
    have hgl : g.getLast? = some (p, n) := by
      rw [List.getLast?_eq_getElem?, show g.length - 1 = k by omega]; exact hk
    rw [hgl] at hi
    obtain ⟨b, hb⟩ := List.getElem?_of_mem hq
    have hbl := (List.getElem?_eq_some_iff.1 hb).1
    have hie := (List.getElem?_eq_some_iff.1 hi.symm).2
    have hbe := (List.getElem?_eq_some_iff.1 hb).2
    have hkb := next_kb h
    have hib : i < b := by
      rcases Nat.lt_trichotomy i b with h1 | h1 | h1
      · exact h1
      · subst h1; rw [hie] at hbe; cases hbe; simp only [KB] at hkb; omega
      · have := hpwF b i hbl hil h1
        rw [hie, hbe] at this
        simp only [KB] at hkb this; omega
    rcases Nat.lt_or_ge (i + 1) b with h1 | h1
    · have k1 := hpwF i (i + 1) hil (by omega) (by omega)
      have k2 := hpwF (i + 1) b (by omega) hbl h1
      rw [hie] at k1
      rw [hbe] at k2
      exact next_none (hok p (List.mem_of_getElem? (seats_iff.1 hpS).1)) h k1 k2
    · have : b = i + 1 := by omega
      subst this
      have hf : follB (q, m) (p, n) = true := by
        rw [follB_iff]
        rw [nextP_iff] at h
        dsimp only; omega
      simp only [cutAt, hb, ← hi, hf] at hc
      cases hc
theorem freeOk {l : List Place} {t : List Bool} (hok : ∀ p ∈ l, SeatOk p) (ho : orderedP l = true) : FreeOk l t (freeI l t) where
  inb r hr n hn := by
    obtain ⟨g, hg, hrg⟩ := run_mem ho hr
    obtain ⟨k, hk⟩ := List.getElem?_of_mem hn
    obtain ⟨p, j, _, rfl, h2, _, _⟩ := run_get ho hg hrg hk
    have := (List.getElem?_eq_some_iff.1 h2).1
    omega
  nxt r hr k a b p q ha hb hp hq := run_next ho hr ha hb hp hq
  new i r k n hr hn := by
    have hnd := free_nodup t ho
    rw [flat_split hr] at hnd
    obtain ⟨h1, h2, h3⟩ := List.nodup_append.1 hnd
    have hrn := (List.nodup_append.1 h2).1
    refine ⟨fun hm => ?_, noTo_zero (Nat.le_of_lt (List.getElem?_eq_some_iff.1 hr).1) fun hm => ?_⟩
    · obtain ⟨j, hj⟩ := List.getElem?_of_mem hm
      rw [List.getElem?_take] at hj
      split at hj
      · rename_i hjk
        have := (List.getElem?_inj (List.getElem?_eq_some_iff.1 hj).1 hrn).1 (hj.trans hn.symm)
        omega
      · cases hj
    · exact h3 n hm n (List.mem_append_left _ (List.mem_of_getElem? hn)) rfl
  mem n p hp := by
    have e : 0 < noTo (freeI l t) (freeI l t).length n ↔ ∃ p, l[n]? = some p ∧ isSeat p = true ∧ takenL t n = false := by
      rw [noTo_mem (Nat.le_refl _), List.take_length, free_mem ho]
    rw [Bool.eq_iff_iff, Bool.and_eq_true, decide_eq_true_eq, decide_eq_true_eq, e]
    constructor
    · rintro ⟨h1, h2⟩
      exact ⟨p, hp, by simpa [isSeat] using h1, by simpa using h2⟩
    · rintro ⟨p', h1, h2, h3⟩
      rw [hp] at h1; cases h1
      exact ⟨by simpa [isSeat] using h2, by simpa using h3⟩
  same n m p q hp hq hn hm h := by
    have hnd := free_nodup t ho
    rw [noTo_mem (Nat.le_refl _), List.take_length] at hn hm
    obtain ⟨r, hr, hnr⟩ := List.mem_flatten.1 hn
    obtain ⟨i, hi⟩ := List.getElem?_of_mem hr
    obtain ⟨g, hg, hrg⟩ := run_mem ho hr
    obtain ⟨k, hk⟩ := List.getElem?_of_mem hnr
    obtain ⟨p', j, h1, h2, h3, _, _⟩ := run_get ho hg hrg hk
    have hj : j = n := by omega
    subst hj
    rw [hp] at h3; cases h3
    obtain ⟨q', m1, m2, m3⟩ := (free_mem ho).1 hm
    rw [hq] at m1; cases m1
    have hqg := run_same hok ho hg (List.mem_of_getElem? h1) (freeL_mem.2 ⟨seats_iff.2 ⟨hq, m2⟩, m3⟩) h
    have hmr : (m : Int) ∈ r := by
      rw [hrg, runI, List.mem_map]
      exact ⟨(q, m), hqg, rfl⟩
    have hil := (List.getElem?_eq_some_iff.1 hi).1
    rw [noTo_of hnd hi hmr _ hil (Nat.le_refl _), noTo_of hnd hi hnr _ hil (Nat.le_refl _)]
theorem free_none (l : List Place) (n : Nat) : freeI l (List.replicate n false) = freeI l [] := by
  have e : ∀ S, freeL (List.replicate n false) S = freeL [] S := fun S => by
    rw [freeL_all fun x _ => ?_, freeL_all fun x _ => takenL_nil _]
    simp only [takenL, List.getD_eq_getElem?_getD, List.getElem?_replicate]
    split <;> simp
  rw [freeI, freeI, e]
end Go.SX.Runs
/-
  Runs: the plain law of single places.
-/
namespace Go.SX.Runs
open Go Go.Proofs
theorem flat_uniq {α : Type} {x : α} : ∀ {rs : List (List α)}, rs.flatten.Nodup → ∀ {r r' : List α}, r ∈ rs → r' ∈ rs → x ∈ r → x ∈ r' → r = r'
  | [], _, _, _, h, _, _, _ => by cases h
  | a :: rs, hn, r, r', h, h', hx, hx' => by
    rw [List.flatten_cons, List.nodup_append] at hn
    obtain ⟨_, h2, h3⟩ := hn
    rcases List.mem_cons.1 h with e | k
    · rcases List.mem_cons.1 h' with e' | k'
      · rw [e, e']
      · subst e
        exact absurd rfl (h3 x hx x (List.mem_flatten.2 ⟨_, k', hx'⟩))
    · rcases List.mem_cons.1 h' with e' | k'
      · subst e'
        exact absurd rfl (h3 x hx' x (List.mem_flatten.2 ⟨_, k, hx⟩))
      · exact flat_uniq h2 k k' hx hx'
theorem next_irr (p : Place) : nextP p p = false := by
  cases h : nextP p p with
  | false => rfl
  | true => rw [nextP_iff] at h; omega
theorem sideB_comm (p q : Place) : sideB p q = sideB q p := by rw [sideB, sideB, Bool.or_comm]
theorem side_same {l : List Place} {t : List Bool} (hok : ∀ p ∈ l, SeatOk p) (ho : orderedP l = true) {r : List Int} (hr : r ∈ freeI l t) {p q : Place} {n m : Nat} (hn : (n : Int) ∈ r) (hp : l[n]? = some p) (hq : l[m]? = some q) (hm : isSeat q = true) (ht : takenL t m = false) (h : nextP p q = true) : (m : Int) ∈ r := by
  obtain ⟨g, hg, hrg⟩ := run_mem ho hr
  obtain ⟨k, hk⟩ := List.getElem?_of_mem hn
  obtain ⟨p', j, h1, h2, h3, _, _⟩ := run_get ho hg hrg hk
  have : j = n := by omega
  subst this
  rw [hp] at h3; cases h3
  have := run_same hok ho hg (List.mem_of_getElem? h1) (freeL_mem.2 ⟨seats_iff.2 ⟨hq, hm⟩, ht⟩) h
  rw [hrg, runI, List.mem_map]
  exact ⟨(q, m), this, rfl⟩
/-- Both neighbours of a place of a run that are free are in that run. -/
theorem side_same2 {l : List Place} {t : List Bool} (hok : ∀ p ∈ l, SeatOk p) (ho : orderedP l = true) {r : List Int} (hr : r ∈ freeI l t) {p q : Place} {n m : Nat} (hn : (n : Int) ∈ r) (hp : l[n]? = some p) (hq : l[m]? = some q) (hm : isSeat q = true) (ht : takenL t m = false) (h : sideB p q = true) : (m : Int) ∈ r := by
  rw [sideB, Bool.or_eq_true] at h
  rcases h with h | h
  · exact side_same hok ho hr hn hp hq hm ht h
  · have hmf : (m : Int) ∈ (freeI l t).flatten := (free_mem ho).2 ⟨q, hq, hm, ht⟩
    obtain ⟨r', hr', hmr'⟩ := List.mem_flatten.1 hmf
    have hnf : (n : Int) ∈ (freeI l t).flatten := List.mem_flatten.2 ⟨r, hr, hn⟩
    obtain ⟨p', h1, h2, h3⟩ := (free_mem ho).1 hnf
    rw [hp] at h1; cases h1
    have := side_same hok ho hr' hmr' hq hp h2 h3 h
    rw [flat_uniq (free_nodup t ho) hr hr' hn this]
    exact hmr'
/-- A run has one place exactly if none beside that is free. -/
theorem single_iff {l : List Place} {t : List Bool} (hok : ∀ p ∈ l, SeatOk p) (ho : orderedP l = true) {n : Nat} : [(n : Int)] ∈ freeI l t ↔ ∃ p, l[n]? = some p ∧ isSeat p = true ∧ takenL t n = false ∧ ∀ (m : Nat) q, l[m]? = some q → isSeat q = true → takenL t m = false → sideB p q = false := by
  constructor
  · intro hr
    obtain ⟨p, h1, h2, h3⟩ := (free_mem ho).1 (List.mem_flatten.2 ⟨_, hr, List.mem_singleton.2 rfl⟩)
    refine ⟨p, h1, h2, h3, fun m q hq hm ht => ?_⟩
    cases hs : sideB p q with
    | false => rfl
    | true =>
      have := side_same2 hok ho hr (List.mem_singleton.2 rfl) h1 hq hm ht hs
      have : m = n := by have := List.mem_singleton.1 this; omega
      subst this
      rw [h1] at hq; cases hq
      rw [sideB, next_irr] at hs
      cases hs
  · rintro ⟨p, h1, h2, h3, h4⟩
    obtain ⟨r, hr, hn⟩ := List.mem_flatten.1 ((free_mem ho).2 ⟨p, h1, h2, h3⟩)
    obtain ⟨k, hk⟩ := List.getElem?_of_mem hn
    have hkl := (List.getElem?_eq_some_iff.1 hk).1
    have other : ∀ (i : Nat) (b : Int), r[i]? = some b → ∃ (m : Nat) (q : Place), b = (m : Int) ∧ l[m]? = some q ∧ isSeat q = true ∧ takenL t m = false := fun i b hb => by
      obtain ⟨g, hg, hrg⟩ := run_mem ho hr
      obtain ⟨q, m, _, k2, k3, k4, k5⟩ := run_get ho hg hrg hb
      exact ⟨m, q, k2, k3, k4, k5⟩
    have e1 : ¬ k + 1 < r.length := fun h => by
      obtain ⟨b, hb⟩ : ∃ b, r[k + 1]? = some b := ⟨_, List.getElem?_eq_getElem h⟩
      obtain ⟨m, q, rfl, k3, k4, k5⟩ := other _ b hb
      have hx := run_next ho hr hk hb (p := p) (q := q) (by simpa using h1) (by simpa using k3)
      have := h4 m q k3 k4 k5
      rw [sideB, hx] at this; cases this
    have e2 : k = 0 := by
      rcases Nat.eq_zero_or_pos k with h | h
      · exact h
      · exfalso
        obtain ⟨b, hb⟩ : ∃ b, r[k - 1]? = some b := ⟨_, List.getElem?_eq_getElem (by omega)⟩
        obtain ⟨m, q, rfl, k3, k4, k5⟩ := other _ b hb
        have hx := run_next ho hr hb (by rw [show k - 1 + 1 = k by omega]; exact hk) (p := q) (q := p) (by simpa using k3) (by simpa using h1)
        have := h4 m q k3 k4 k5
        rw [sideB, hx, Bool.or_true] at this; cases this
    subst e2
    match r, hk, e1, hr with
    | [x], hk, _, hr =>
      have hx : x = (n : Int) := by simpa using hk
      rw [hx] at hr
      exact hr
    | [], hk, _, _ => cases hk
    | x :: y :: r, _, e1, _ => simp at e1
theorem iget_fold (x v : Int) : ∀ (rs : List (List Int)) (m : List (Int × Int)), rs.Pairwise (fun r r' => r.headD 0 ≠ r'.headD 0) → (iget (rs.foldl (fun m r => iput m (r.headD 0) r.length) m) x = some v ↔ (∃ r ∈ rs, r.headD 0 = x ∧ v = r.length) ∨ ((∀ r ∈ rs, r.headD 0 ≠ x) ∧ iget m x = some v))
  | [], m, _ => by simp
  | r :: rs, m, h => by
    obtain ⟨h1, h2⟩ := List.pairwise_cons.1 h
    rw [List.foldl_cons, iget_fold x v rs _ h2, iget_iput]
    constructor
    · rintro (⟨r', h3, h4, h5⟩ | ⟨h3, h4⟩)
      · exact .inl ⟨r', List.mem_cons_of_mem _ h3, h4, h5⟩
      · split at h4
        · rename_i e
          exact .inl ⟨r, List.mem_cons_self, e.symm, by simpa using h4.symm⟩
        · rename_i e
          refine .inr ⟨fun r' hr' => ?_, h4⟩
          rcases List.mem_cons.1 hr' with rfl | hr'
          · exact fun e2 => e e2.symm
          · exact h3 r' hr'
    · rintro (⟨r', h3, h4, h5⟩ | ⟨h3, h4⟩)
      · rcases List.mem_cons.1 h3 with rfl | h3
        · refine .inr ⟨fun r'' h6 e => h1 r'' h6 (h4.trans e.symm), ?_⟩
          rw [if_pos h4.symm, h5]
        · exact .inl ⟨r', h3, h4, h5⟩
      · refine .inr ⟨fun r' hr' => h3 r' (List.mem_cons_of_mem _ hr'), ?_⟩
        rw [if_neg (fun e => h3 r List.mem_cons_self e.symm)]
        exact h4
theorem heads_pw : ∀ {rs : List (List Int)}, rs.flatten.Nodup → (∀ r ∈ rs, r ≠ []) → rs.Pairwise (fun r r' => r.headD 0 ≠ r'.headD 0)
  | [], _, _ => .nil
  | a :: rs, hn, hne => by
    rw [List.flatten_cons, List.nodup_append] at hn
    obtain ⟨_, h2, h3⟩ := hn
    have mem : ∀ r : List Int, r ≠ [] → r.headD 0 ∈ r := fun r hr => by
      cases r with
      | nil => exact absurd rfl hr
      | cons x r => exact List.mem_cons_self
    refine List.pairwise_cons.2 ⟨fun r hr e => ?_, heads_pw h2 fun r hr => hne r (List.mem_cons_of_mem _ hr)⟩
    refine h3 _ (mem a (hne a List.mem_cons_self)) _ (List.mem_flatten.2 ⟨r, hr, mem r (hne r (List.mem_cons_of_mem _ hr))⟩) e
theorem wasL_one {rs : List (List Int)} (hn : rs.flatten.Nodup) (hne : ∀ r ∈ rs, r ≠ []) (x : Int) : wasL rs x = 1 ↔ [x] ∈ rs := by
  have h := fun v => iget_fold x v rs [] (heads_pw hn hne)
  rw [wasL]
  constructor
  · intro e
    cases hg : iget (bm rs) x with
    | none => rw [hg] at e; cases e
    | some v =>
      rw [hg] at e
      have hv : v = 1 := e
      subst hv
      rcases (h 1).1 hg with ⟨r, h1, h2, h3⟩ | ⟨_, h2⟩
      · match r, h1, h2, h3 with
        | [y], h1, h2, _ => rw [← h2]; exact h1
        | [], h1, _, _ => exact absurd rfl (hne _ h1)
        | y :: z :: r, _, _, h3 => simp at h3; omega
      · cases h2
  · intro hm
    have : iget (bm rs) x = some 1 := (h 1).2 (.inl ⟨[x], hm, rfl, rfl⟩)
    rw [this]; rfl
theorem leftL_mem {rs ns : List (List Int)} {x : Int} : x ∈ leftL rs ns ↔ [x] ∈ ns ∧ wasL rs x ≠ 1 := by
  rw [leftL, List.mem_map]
  constructor
  · rintro ⟨r, hr, rfl⟩
    rw [List.mem_filter] at hr
    obtain ⟨h1, h2⟩ := hr
    match r, h1, h2 with
    | [y], h1, h2 => exact ⟨h1, by simpa using h2⟩
    | [], _, h2 => simp at h2
    | y :: z :: r, _, h2 => simp at h2
  · rintro ⟨h1, h2⟩
    exact ⟨[x], List.mem_filter.2 ⟨h1, by simpa using h2⟩, rfl⟩
theorem singles_mem {l : List Place} {t : List Bool} {c : List Int} (ho : orderedP l = true) {x : Int} : x ∈ singlesL l t c ↔ [x] ∈ freeI l (afterL l t c) ∧ [x] ∉ freeI l t := by
  rw [singlesL, leftL_mem, Ne, wasL_one (free_nodup t ho) fun r hr => freeI_ne hr]
theorem leftL_sub (rs : List (List Int)) : ∀ ns, (leftL rs ns).Sublist ns.flatten
  | [] => List.Sublist.slnil
  | r :: ns => by
    have ih := leftL_sub rs ns
    rw [leftL] at ih ⊢
    rw [List.filter_cons, List.flatten_cons]
    split
    · rename_i h
      match r, h with
      | [y], _ => exact ih.cons_cons y
      | [], h => simp at h
      | y :: z :: r, h => simp at h
    · exact ih.trans (List.sublist_append_right _ _)
theorem flat_asc {l : List Place} (t : List Bool) (ho : orderedP l = true) : (freeI l t).flatten.Pairwise (· < ·) := by
  rw [freeI_flat t ho]
  have e : ((freeL t (seatsL l)).map fun x => (x.2 : Int)) = ((freeL t (seatsL l)).map (·.2)).map fun (j : Nat) => (j : Int) := by rw [List.map_map]; rfl
  rw [e]
  exact List.Pairwise.map _ (fun a b (h : a < b) => by omega) (free_idx l t)
theorem pw_step {L : List Int} (h : L.Pairwise (· < ·)) {i : Nat} {a b : Int} (ha : L[i]? = some a) (hb : L[i + 1]? = some b) : a < b := by
  obtain ⟨h1, rfl⟩ := List.getElem?_eq_some_iff.1 ha
  obtain ⟨h2, rfl⟩ := List.getElem?_eq_some_iff.1 hb
  exact List.pairwise_iff_getElem.1 h i (i + 1) h1 h2 (by omega)
theorem after_get {l : List Place} {t : List Bool} {c : List Int} {n : Nat} (h : n < l.length) : (afterL l t c)[n]? = some (takenL t n || decide ((n : Int) ∈ c)) := by
  rw [afterL, List.getElem?_map, List.getElem?_range h]; rfl
theorem after_taken {l : List Place} {t : List Bool} {c : List Int} {n : Nat} (h : n < l.length) : takenL (afterL l t c) n = (takenL t n || decide ((n : Int) ∈ c)) := by
  rw [takenL, List.getD_eq_getElem?_getD, Int.toNat_natCast, after_get h]; simp
theorem besTo_of {l : List Place} {t : List Bool} {p q : Place} {m : Nat} (hq : l[m]? = some q) (hs : sideB p q = true) (hr : 0 ≤ q.row) (ht : takenL t m = false) : ∀ k, m < k → besTo l t p k = true
  | 0, h => by omega
  | k + 1, h => by
    rw [besTo]
    by_cases e : m = k
    · subst e
      rw [hq]; simp [hs, hr, ht]
    · rw [besTo_of hq hs hr ht k (by omega)]; rfl
theorem nat_of_single {l : List Place} {t : List Bool} (ho : orderedP l = true) {x : Int} (h : [x] ∈ freeI l t) : ∃ n : Nat, x = n := by
  obtain ⟨g, hg, hrg⟩ := run_mem ho h
  obtain ⟨_, j, _, h2, _⟩ := run_get ho hg hrg (k := 0) (a := x) rfl
  exact ⟨j, h2⟩
theorem leftOk {l : List Place} {t : List Bool} {c : List Int} (hok : ∀ p ∈ l, SeatOk p) (ho : orderedP l = true) : LeftOk l t (afterL l t c) (singlesL l t c) where
  inb x hx := by
    have h := ((singles_mem ho).1 hx).1
    obtain ⟨n, rfl⟩ := nat_of_single ho h
    obtain ⟨p, h1, _⟩ := (single_iff hok ho).1 h
    have := (List.getElem?_eq_some_iff.1 h1).1
    omega
  fre x hx := by
    have h := ((singles_mem ho).1 hx).1
    obtain ⟨n, rfl⟩ := nat_of_single ho h
    obtain ⟨p, h1, _, h3, _⟩ := (single_iff hok ho).1 h
    have hl := (List.getElem?_eq_some_iff.1 h1).1
    rw [after_taken hl] at h3
    rw [Int.toNat_natCast, after_get hl, h3]
  asc i a b ha hb := pw_step ((flat_asc _ ho).sublist (leftL_sub _ _)) ha hb
  side x hx p m q hp hq hs hr := by
    have h := ((singles_mem ho).1 hx).1
    obtain ⟨n, rfl⟩ := nat_of_single ho h
    obtain ⟨p', h1, h2, h3, h4⟩ := (single_iff hok ho).1 h
    rw [Int.toNat_natCast] at hp
    rw [h1] at hp; cases hp
    have hl := (List.getElem?_eq_some_iff.1 hq).1
    rw [after_get hl, ← after_taken hl]
    cases ht : takenL (afterL l t c) m with
    | true => rfl
    | false =>
      have := h4 m q hq (by simpa [isSeat] using hr) ht
      rw [hs] at this; cases this
  bes x hx p hp := by
    obtain ⟨h, hno⟩ := (singles_mem ho).1 hx
    obtain ⟨n, rfl⟩ := nat_of_single ho h
    obtain ⟨p', h1, h2, h3, h4⟩ := (single_iff hok ho).1 h
    rw [Int.toNat_natCast] at hp
    rw [h1] at hp; cases hp
    have hl := (List.getElem?_eq_some_iff.1 h1).1
    rw [after_taken hl, Bool.or_eq_false_iff] at h3
    apply Classical.byContradiction
    intro hb
    refine hno ((single_iff hok ho).2 ⟨p, h1, h2, h3.1, fun m q hq hm ht => ?_⟩)
    cases hs : sideB p q with
    | false => rfl
    | true => exact absurd (besTo_of hq hs (by simpa [isSeat] using hm) ht _ (List.getElem?_eq_some_iff.1 hq).1) hb
end Go.SX.Runs
/-
  Runs: the plain law of one row.
-/
namespace Go.SX.Runs
open Go Go.Proofs
/-- A division of a list of indices: within a part each one is the neighbour of the one before, and not across two parts. -/
structure Seg (r : Int → Int → Prop) (gs : List (List Int)) : Prop where
  ne : ∀ g ∈ gs, g ≠ []
  on : ∀ g ∈ gs, ∀ (i : Nat) a b, g[i]? = some a → g[i + 1]? = some b → r a b
  cut : ∀ (i : Nat) g g' a b, gs[i]? = some g → gs[i + 1]? = some g' → g.getLast? = some a → g'[0]? = some b → ¬ r a b
theorem Seg.tail {r : Int → Int → Prop} {g : List Int} {gs : List (List Int)} (h : Seg r (g :: gs)) : Seg r gs where
  ne x hx := h.ne x (List.mem_cons_of_mem _ hx)
  on x hx := h.on x (List.mem_cons_of_mem _ hx)
  cut i := h.cut (i + 1)
theorem Seg.not_lt {r : Int → Int → Prop} {g g' : List Int} {gs gs' : List (List Int)} (h : Seg r (g :: gs)) (h' : Seg r (g' :: gs')) (he : g ++ gs.flatten = g' ++ gs'.flatten) : ¬ g.length < g'.length := by
  intro hlt
  have hg : 0 < g.length := List.length_pos_iff.2 (h.ne g List.mem_cons_self)
  have e1 : ∀ i, i < g'.length → (g ++ gs.flatten)[i]? = g'[i]? := fun i hi => by rw [he, List.getElem?_append_left hi]
  obtain ⟨a, ha⟩ : ∃ a, g[g.length - 1]? = some a := ⟨_, List.getElem?_eq_getElem (by omega)⟩
  have ha' : g'[g.length - 1]? = some a := by rw [← e1 _ (by omega), List.getElem?_append_left (by omega)]; exact ha
  obtain ⟨b, hb⟩ : ∃ b, g'[g.length]? = some b := ⟨_, List.getElem?_eq_getElem hlt⟩
  have hb' : gs.flatten[0]? = some b := by
    have := e1 g.length hlt
    rw [List.getElem?_append_right (Nat.le_refl _), Nat.sub_self] at this
    rw [this]; exact hb
  have hr := h'.on g' List.mem_cons_self (g.length - 1) a b ha' (by rw [show g.length - 1 + 1 = g.length by omega]; exact hb)
  match gs, h, hb' with
  | [], _, hb' => cases hb'
  | g2 :: gs, h, hb' =>
    have h2 : 0 < g2.length := List.length_pos_iff.2 (h.ne g2 (by simp))
    rw [List.flatten_cons, List.getElem?_append_left h2] at hb'
    exact h.cut 0 g g2 a b rfl rfl (by rw [List.getLast?_eq_getElem?]; exact ha) hb' hr
theorem Seg.uniq {r : Int → Int → Prop} : ∀ {gs gs' : List (List Int)}, Seg r gs → Seg r gs' → gs.flatten = gs'.flatten → gs = gs'
  | [], [], _, _, _ => rfl
  | [], g :: gs, _, h', he => by
    have := h'.ne g List.mem_cons_self
    rw [List.flatten_nil, List.flatten_cons] at he
    exact absurd (List.append_eq_nil_iff.1 he.symm).1 this
  | g :: gs, [], h, _, he => by
    have := h.ne g List.mem_cons_self
    rw [List.flatten_nil, List.flatten_cons] at he
    exact absurd (List.append_eq_nil_iff.1 he).1 this
  | g :: gs, g' :: gs', h, h', he => by
    rw [List.flatten_cons, List.flatten_cons] at he
    have h1 := h.not_lt h' he
    have h2 := h'.not_lt h he.symm
    obtain ⟨e1, e2⟩ := List.append_inj he (by omega)
    rw [e1, h.tail.uniq h'.tail e2]
theorem sub_flat {gs rs : List (List Int)} (h : gs.Sublist rs) : gs.flatten.Sublist rs.flatten := by
  induction h with
  | slnil => exact .slnil
  | cons a _ ih => rw [List.flatten_cons]; exact ih.trans (List.sublist_append_right _ _)
  | cons_cons a _ ih => rw [List.flatten_cons, List.flatten_cons]; exact List.Sublist.append_left ih _
def nextAt (l : List Place) (a b : Int) : Prop := ∃ (n m : Nat) (p q : Place), a = n ∧ b = m ∧ l[n]? = some p ∧ l[m]? = some q ∧ nextP p q = true
theorem nat_of_run {l : List Place} {t : List Bool} (ho : orderedP l = true) {r : List Int} (hr : r ∈ freeI l t) {x : Int} (hx : x ∈ r) : ∃ (n : Nat) (p : Place), x = n ∧ l[n]? = some p ∧ isSeat p = true ∧ takenL t n = false := by
  obtain ⟨g, hg, hrg⟩ := run_mem ho hr
  obtain ⟨k, hk⟩ := List.getElem?_of_mem hx
  obtain ⟨p, j, _, h2, h3, h4, h5⟩ := run_get ho hg hrg hk
  exact ⟨j, p, h2, h3, h4, h5⟩
/-- Some of the runs. -/
theorem seg_runs {l : List Place} {t : List Bool} (hok : ∀ p ∈ l, SeatOk p) (ho : orderedP l = true) {gs : List (List Int)} (hs : gs.Sublist (freeI l t)) : Seg (nextAt l) gs where
  ne g hg := freeI_ne (hs.subset hg)
  on g hg i a b ha hb := by
    obtain ⟨n, p, rfl, h1, _⟩ := nat_of_run ho (hs.subset hg) (List.mem_of_getElem? ha)
    obtain ⟨m, q, rfl, h2, _⟩ := nat_of_run ho (hs.subset hg) (List.mem_of_getElem? hb)
    exact ⟨n, m, p, q, rfl, rfl, h1, h2, run_next ho (hs.subset hg) ha hb (by simpa using h1) (by simpa using h2)⟩
  cut i g g' a b hg hg' ha hb := by
    rintro ⟨n, m, p, q, rfl, rfl, h1, h2, h3⟩
    have hgm := hs.subset (List.mem_of_getElem? hg)
    have hgm' := hs.subset (List.mem_of_getElem? hg')
    have ham : (n : Int) ∈ g := List.mem_of_getLast? ha
    have hbm : (m : Int) ∈ g' := List.mem_of_getElem? hb
    obtain ⟨m', q', e, k1, k2, k3⟩ := nat_of_run ho hgm' hbm
    have : m' = m := by omega
    subst this
    rw [h2] at k1; cases k1
    have hin := side_same hok ho hgm ham h1 h2 k2 k3 h3
    have hnd : gs.flatten.Nodup := (free_nodup t ho).sublist (sub_flat hs)
    rw [flat_split hg] at hnd
    refine (List.nodup_append.1 (List.nodup_append.1 hnd).2.1).2.2 _ hin _ (List.mem_flatten.2 ⟨g', ?_, hbm⟩) rfl
    rw [List.mem_iff_getElem?]
    exact ⟨0, by rw [List.getElem?_drop]; exact hg'⟩
theorem run_whole {l : List Place} {t : List Bool} (hok : ∀ p ∈ l, SeatOk p) (ho : orderedP l = true) {r row : List Int} (hr : r ∈ freeI l t) (hw : row ∈ freeI l []) : ∀ x ∈ r, x ∈ row ↔ r.headD 0 ∈ row := by
  have step : ∀ k : Nat, ∀ a b : Int, r[k]? = some a → r[0]? = some b → (a ∈ row ↔ b ∈ row) := by
    intro k
    induction k with
    | zero => intro a b ha hb; rw [ha] at hb; cases hb; rfl
    | succ k ih =>
      intro a b ha hb
      have hk : k < r.length := by have := (List.getElem?_eq_some_iff.1 ha).1; omega
      obtain ⟨c, hc⟩ : ∃ c, r[k]? = some c := ⟨_, List.getElem?_eq_getElem hk⟩
      rw [← ih c b hc hb]
      obtain ⟨n, p, rfl, h1, h2, _⟩ := nat_of_run ho hr (List.mem_of_getElem? hc)
      obtain ⟨m, q, rfl, k1, k2, _⟩ := nat_of_run ho hr (List.mem_of_getElem? ha)
      have hn := run_next ho hr hc ha (p := p) (q := q) (by simpa using h1) (by simpa using k1)
      have hs : sideB p q = true := by rw [sideB, hn]; rfl
      constructor
      · intro hm
        refine side_same2 hok ho hw hm k1 h1 h2 (takenL_nil _) (by rw [sideB_comm]; exact hs)
      · intro hm
        exact side_same2 hok ho hw hm h1 k1 k2 (takenL_nil _) hs
  intro x hx
  obtain ⟨k, hk⟩ := List.getElem?_of_mem hx
  match r, hk, step with
  | [], hk, _ => cases hk
  | b :: r, hk, step => exact step k x b hk rfl
theorem mine_flat {row : List Int} : ∀ {rs : List (List Int)}, (∀ r ∈ rs, ∀ x ∈ r, x ∈ row ↔ r.headD 0 ∈ row) → (mineL rs row).flatten = rs.flatten.filter fun x => decide (x ∈ row)
  | [], _ => rfl
  | r :: rs, h => by
    have ih := mine_flat (row := row) (rs := rs) fun r' hr' => h r' (List.mem_cons_of_mem _ hr')
    have h0 := h r List.mem_cons_self
    rw [mineL] at ih ⊢
    rw [List.flatten_cons, List.filter_append, List.filter_cons]
    by_cases hm : r.headD 0 ∈ row
    · rw [if_pos (by simpa using hm), List.flatten_cons, ih]
      congr 1
      exact (List.filter_eq_self.2 fun x hx => decide_eq_true ((h0 x hx).2 hm)).symm
    · rw [if_neg (by simpa using hm), ih]
      have : r.filter (fun x => decide (x ∈ row)) = [] := List.filter_eq_nil_iff.2 fun x hx => by
        rw [decide_eq_true_eq]
        exact fun hx2 => hm ((h0 x hx).1 hx2)
      rw [this]; rfl
theorem oth_taken {l : List Place} {t : List Bool} {row : List Int} {n : Nat} (h : n < l.length) : takenL (othL l t row) n = (takenL t n || !decide ((n : Int) ∈ row)) := by
  rw [takenL, List.getD_eq_getElem?_getD, Int.toNat_natCast, othL, List.getElem?_map, List.getElem?_range h]; simp
theorem apart_free {l : List Place} (hok : ∀ p ∈ l, SeatOk p) (ho : orderedP l = true) (t : List Bool) {row : List Int} (hw : row ∈ freeI l []) : freeI l (othL l t row) = mineL (freeI l t) row := by
  refine (seg_runs hok ho (List.Sublist.refl _)).uniq (seg_runs hok ho List.filter_sublist) ?_
  rw [mine_flat fun r hr => run_whole hok ho hr hw, freeI_flat _ ho, freeI_flat _ ho, List.filter_map]
  congr 1
  rw [freeL, freeL, List.filter_filter]
  refine List.filter_congr fun x hx => ?_
  obtain ⟨p, n⟩ := x
  have hl := (List.getElem?_eq_some_iff.1 (seats_iff.1 hx).1).1
  dsimp only
  rw [oth_taken hl]
  simp only [Function.comp, Bool.not_or, Bool.not_not]
  rw [Bool.and_comm]
theorem oth_after (l : List Place) (t : List Bool) (c row : List Int) : afterL l (othL l t row) c = othL l (afterL l t c) row := by
  rw [afterL, othL.eq_1 l (afterL l t c) row]
  refine List.map_congr_left fun i hi => ?_
  rw [oth_taken (List.mem_range.1 hi), after_taken (List.mem_range.1 hi), Bool.or_assoc, Bool.or_assoc, Bool.or_comm (!_)]
theorem left_mine {rs ns : List (List Int)} {row : List Int} (hn : rs.flatten.Nodup) (hne : ∀ r ∈ rs, r ≠ []) : leftL (mineL rs row) (mineL ns row) = ownL (leftL rs ns) row := by
  rw [leftL, leftL, ownL, mineL.eq_1 ns row, List.filter_filter, List.filter_map, List.filter_filter]
  congr 1
  refine List.filter_congr fun r _ => ?_
  simp only [Function.comp]
  by_cases hm : r.headD 0 ∈ row
  · have e : wasL (mineL rs row) (r.headD 0) = 1 ↔ wasL rs (r.headD 0) = 1 := by
      rw [wasL_one (rs := mineL rs row) (hn.sublist (sub_flat List.filter_sublist)) fun r hr => hne r (List.mem_filter.1 hr).1, wasL_one hn hne, mineL.eq_1 rs row, List.mem_filter]
      simp only [List.headD_cons, decide_eq_true_eq]
      exact ⟨fun h => h.1, fun h => ⟨h, decide_eq_true hm⟩⟩
    simp only [hm, decide_true, Bool.and_true, Bool.true_and, decide_eq_decide.2 e]
  · simp only [hm, decide_false, Bool.and_false, Bool.false_and]
theorem apartOk {l : List Place} {t : List Bool} {c : List Int} (hok : ∀ p ∈ l, SeatOk p) (ho : orderedP l = true) : ∀ row ∈ freeI l [], ApartOk l t c row := fun row hw => by
  refine ⟨apart_free hok ho t hw, ?_⟩
  rw [singlesL, oth_after, apart_free hok ho _ hw, apart_free hok ho _ hw]
  exact left_mine (free_nodup t ho) fun r hr => freeI_ne hr
end Go.SX.Runs
