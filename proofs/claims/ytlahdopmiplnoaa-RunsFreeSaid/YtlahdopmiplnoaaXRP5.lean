/-
  Runs: the plain law of runs.
-/
import Derived.Test.YtlahdopmiplnoaaXRP
import Derived.Test.YtlahdopmiplnoaaXR18
namespace Go.SX.Runs
open Go Go.Proofs
theorem noTo_mem {rs : List (List Int)} {n : Int} : ∀ {i : Nat}, i ≤ rs.length → (0 < noTo rs i n ↔ n ∈ (rs.take i).flatten)
  | 0, _ => by simp [noTo]
  | i + 1, h => by
    have hr : rs[i]? = some rs[i] := List.getElem?_eq_getElem (by omega)
    have ih := noTo_mem (rs := rs) (n := n) (i := i) (by omega)
    have hle := noTo_le rs n i
    rw [noTo_succ hr, take_flat hr, List.mem_append]
    split
    · rename_i hm
      exact ⟨fun _ => .inr hm, fun _ => by omega⟩
    · rename_i hm
      rw [ih]
      exact ⟨.inl, fun h => h.resolve_right hm⟩
theorem noTo_zero {rs : List (List Int)} {n : Int} {i : Nat} (hi : i ≤ rs.length) (h : n ∉ (rs.take i).flatten) : noTo rs i n = 0 := by
  have h1 := (noTo_le rs n i).1
  have h2 : ¬ 0 < noTo rs i n := fun hp => h ((noTo_mem hi).1 hp)
  omega
theorem flat_split {rs : List (List Int)} {i : Nat} {r : List Int} (h : rs[i]? = some r) : rs.flatten = (rs.take i).flatten ++ (r ++ (rs.drop (i + 1)).flatten) := by
  obtain ⟨hi, he⟩ := List.getElem?_eq_some_iff.1 h
  have : rs = rs.take i ++ (r :: rs.drop (i + 1)) := by rw [← he, ← List.drop_eq_getElem_cons hi, List.take_append_drop]
  conv => lhs; rw [this]
  simp
theorem noTo_of {rs : List (List Int)} (hn : rs.flatten.Nodup) {i : Nat} {r : List Int} {n : Int} (hr : rs[i]? = some r) (hm : n ∈ r) : ∀ j, i < j → j ≤ rs.length → noTo rs j n = i + 1
  | 0, h, _ => by omega
  | j + 1, h, hj => by
    have hrj : rs[j]? = some rs[j] := List.getElem?_eq_getElem (by omega)
    rw [noTo_succ hrj]
    by_cases hij : i = j
    · subst hij
      rw [hr] at hrj; cases hrj
      rw [if_pos hm]
    · have ih := noTo_of hn hr hm j (by omega) (by omega)
      rw [if_neg, ih]
      intro hm2
      rw [flat_split hrj] at hn
      have hd := (List.nodup_append.1 hn).2.2
      have h1 : n ∈ (rs.take j).flatten := List.mem_flatten.2 ⟨r, List.mem_iff_getElem?.2 ⟨i, by rw [List.getElem?_take, if_pos (by omega)]; exact hr⟩, hm⟩
      exact hd n h1 n (List.mem_append_left _ hm2) rfl
theorem free_nodup {l : List Place} (t : List Bool) (ho : orderedP l = true) : (freeI l t).flatten.Nodup := by
  rw [freeI_flat t ho]
  have e : ((freeL t (seatsL l)).map fun x => (x.2 : Int)) = ((freeL t (seatsL l)).map (·.2)).map fun (j : Nat) => (j : Int) := by rw [List.map_map]; rfl
  rw [e]
  exact List.Pairwise.map _ (fun a b (h : a < b) => by omega) (free_idx l t)
theorem free_mem {l : List Place} {t : List Bool} (ho : orderedP l = true) {n : Nat} : (n : Int) ∈ (freeI l t).flatten ↔ ∃ p, l[n]? = some p ∧ isSeat p = true ∧ takenL t n = false := by
  have h := run_count t ho n
  rw [← List.count_pos_iff, h]
  split <;> simp_all
/-- The seat that follows one in a run is in that run. -/
theorem run_same {l : List Place} {t : List Bool} (hok : ∀ p ∈ l, SeatOk p) (ho : orderedP l = true) {g : List (Place × Nat)} (hg : g ∈ divideL (freeL t (seatsL l))) {p q : Place} {n m : Nat} (hp : (p, n) ∈ g) (hq : (q, m) ∈ freeL t (seatsL l)) (h : nextP p q = true) : (q, m) ∈ g := by
  have hqS := (freeL_mem.1 hq).1
  have hql := (seats_iff.1 hqS).1
  have hpF := grp_mem hg hp
  have hpS := (freeL_mem.1 hpF).1
  obtain ⟨i0, hi0⟩ := List.getElem?_of_mem hpS
  have hside := next_side hok ho hi0 hql h
  obtain ⟨k, hk⟩ := List.getElem?_of_mem hp
  have hkl := (List.getElem?_eq_some_iff.1 hk).1
  have hpwF := List.pairwise_iff_getElem.1 ((seats_pw ho).sublist (freeL_sub t (seatsL l)))
  by_cases hk1 : k + 1 < g.length
  · obtain ⟨x, hx⟩ : ∃ x, g[k + 1]? = some x := ⟨_, List.getElem?_eq_getElem hk1⟩
    have hxF := grp_mem hg (List.mem_of_getElem? hx)
    have hxS := (freeL_mem.1 hxF).1
    obtain ⟨x1, x2⟩ := x
    have hxl := (seats_iff.1 hxS).1
    have hf := (groups _).on g hg k _ _ hk hx
    have hpw := ((seats_pw ho).sublist (freeL_sub t _)).sublist (grp_sub hg)
    have hkb := List.pairwise_iff_getElem.1 hpw k (k + 1) hkl hk1 (by omega)
    rw [(List.getElem?_eq_some_iff.1 hk).2, (List.getElem?_eq_some_iff.1 hx).2] at hkb
    have hps := (seats_iff.1 hpS).2
    have hnx : nextP p x1 = true := by
      rw [follB_iff] at hf
      rw [nextP_iff]
      simp only [isSeat, decide_eq_true_eq] at hps
      simp only [KB] at hkb
      dsimp only at hf hkb
      omega
    have hs2 := next_side hok ho hi0 hxl hnx
    rw [hside] at hs2; cases hs2
    exact List.mem_of_getElem? hx
  · exfalso
    obtain ⟨i, hi, hc, hil⟩ := (groups _).last g hg
    have hgl : g.getLast? = some (p, n) := by
      rw [List.getLast?_eq_getElem?, show g.length - 1 = k by omega]; exact hk
    rw [hgl] at hi
    obtain ⟨b, hb⟩ := List.getElem?_of_mem hq
    have hbl := (List.getElem?_eq_some_iff.1 hb).1
    have hie := (List.getElem?_eq_some_iff.1 hi.symm).2
    have hbe := (List.getElem?_eq_some_iff.1 hb).2
    have hkb := next_kb h
    have hib : i < b := by
      rcases Nat.lt_trichotomy i b with h1 | h1 | h1
      · exact h1
      · subst h1; rw [hie] at hbe; cases hbe; simp only [KB] at hkb; omega
      · have := hpwF b i hbl hil h1
        rw [hie, hbe] at this
        simp only [KB] at hkb this; omega
    rcases Nat.lt_or_ge (i + 1) b with h1 | h1
    · have k1 := hpwF i (i + 1) hil (by omega) (by omega)
      have k2 := hpwF (i + 1) b (by omega) hbl h1
      rw [hie] at k1
      rw [hbe] at k2
      exact next_none (hok p (List.mem_of_getElem? (seats_iff.1 hpS).1)) h k1 k2
    · have : b = i + 1 := by omega
      subst this
      have hf : follB (q, m) (p, n) = true := by
        rw [follB_iff]
        rw [nextP_iff] at h
        dsimp only; omega
      simp only [cutAt, hb, ← hi, hf] at hc
      cases hc
theorem freeOk {l : List Place} {t : List Bool} (hok : ∀ p ∈ l, SeatOk p) (ho : orderedP l = true) : FreeOk l t (freeI l t) where
  inb r hr n hn := by
    obtain ⟨g, hg, hrg⟩ := run_mem ho hr
    obtain ⟨k, hk⟩ := List.getElem?_of_mem hn
    obtain ⟨p, j, _, rfl, h2, _, _⟩ := run_get ho hg hrg hk
    have := (List.getElem?_eq_some_iff.1 h2).1
    omega
  nxt r hr k a b p q ha hb hp hq := run_next ho hr ha hb hp hq
  new i r k n hr hn := by
    have hnd := free_nodup t ho
    rw [flat_split hr] at hnd
    obtain ⟨h1, h2, h3⟩ := List.nodup_append.1 hnd
    have hrn := (List.nodup_append.1 h2).1
    refine ⟨fun hm => ?_, noTo_zero (Nat.le_of_lt (List.getElem?_eq_some_iff.1 hr).1) fun hm => ?_⟩
    · obtain ⟨j, hj⟩ := List.getElem?_of_mem hm
      rw [List.getElem?_take] at hj
      split at hj
      · rename_i hjk
        have := (List.getElem?_inj (List.getElem?_eq_some_iff.1 hj).1 hrn).1 (hj.trans hn.symm)
        omega
      · cases hj
    · exact h3 n hm n (List.mem_append_left _ (List.mem_of_getElem? hn)) rfl
  mem n p hp := by
    have e : 0 < noTo (freeI l t) (freeI l t).length n ↔ ∃ p, l[n]? = some p ∧ isSeat p = true ∧ takenL t n = false := by
      rw [noTo_mem (Nat.le_refl _), List.take_length, free_mem ho]
    rw [Bool.eq_iff_iff, Bool.and_eq_true, decide_eq_true_eq, decide_eq_true_eq, e]
    constructor
    · rintro ⟨h1, h2⟩
      exact ⟨p, hp, by simpa [isSeat] using h1, by simpa using h2⟩
    · rintro ⟨p', h1, h2, h3⟩
      rw [hp] at h1; cases h1
      exact ⟨by simpa [isSeat] using h2, by simpa using h3⟩
  same n m p q hp hq hn hm h := by
    have hnd := free_nodup t ho
    rw [noTo_mem (Nat.le_refl _), List.take_length] at hn hm
    obtain ⟨r, hr, hnr⟩ := List.mem_flatten.1 hn
    obtain ⟨i, hi⟩ := List.getElem?_of_mem hr
    obtain ⟨g, hg, hrg⟩ := run_mem ho hr
    obtain ⟨k, hk⟩ := List.getElem?_of_mem hnr
    obtain ⟨p', j, h1, h2, h3, _, _⟩ := run_get ho hg hrg hk
    have hj : j = n := by omega
    subst hj
    rw [hp] at h3; cases h3
    obtain ⟨q', m1, m2, m3⟩ := (free_mem ho).1 hm
    rw [hq] at m1; cases m1
    have hqg := run_same hok ho hg (List.mem_of_getElem? h1) (freeL_mem.2 ⟨seats_iff.2 ⟨hq, m2⟩, m3⟩) h
    have hmr : (m : Int) ∈ r := by
      rw [hrg, runI, List.mem_map]
      exact ⟨(q, m), hqg, rfl⟩
    have hil := (List.getElem?_eq_some_iff.1 hi).1
    rw [noTo_of hnd hi hmr _ hil (Nat.le_refl _), noTo_of hnd hi hnr _ hil (Nat.le_refl _)]
theorem free_none (l : List Place) (n : Nat) : freeI l (List.replicate n false) = freeI l [] := by
  have e : ∀ S, freeL (List.replicate n false) S = freeL [] S := fun S => by
    rw [freeL_all fun x _ => ?_, freeL_all fun x _ => takenL_nil _]
    simp only [takenL, List.getD_eq_getElem?_getD, List.getElem?_replicate]
    split <;> simp
  rw [freeI, freeI, e]
end Go.SX.Runs
