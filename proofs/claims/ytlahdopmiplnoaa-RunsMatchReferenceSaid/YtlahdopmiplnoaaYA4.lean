/-
  Runs: what is together, as the reference says it (plain).
-/
import Derived.Test.YtlahdopmiplnoaaYA1
set_option linter.unusedSimpArgs false
set_option linter.unusedVariables false
set_option linter.unusedSectionVars false
namespace Go.SX.Runs
open Go Go.Proofs
theorem up_sub : ∀ {B A : List Int}, A.Pairwise (· < ·) → B.Pairwise (· < ·) → (∀ x ∈ A, x ∈ B) → A.length ≤ B.length ∧ (A.length = B.length → A = B)
  | [], [], _, _, _ => ⟨Nat.le_refl _, fun _ => rfl⟩
  | [], a :: A, _, _, h => by have := h a List.mem_cons_self; cases this
  | b :: B, [], _, _, _ => ⟨Nat.zero_le _, fun h => by cases h⟩
  | b :: B, a :: A, hA, hB, h => by
    obtain ⟨a1, a2⟩ := List.pairwise_cons.1 hA
    obtain ⟨b1, b2⟩ := List.pairwise_cons.1 hB
    rcases List.mem_cons.1 (h a List.mem_cons_self) with rfl | hab
    · have hs : ∀ x ∈ A, x ∈ B := fun x hx => by
        rcases List.mem_cons.1 (h x (List.mem_cons_of_mem _ hx)) with rfl | h'
        · have := a1 x hx; omega
        · exact h'
      obtain ⟨k1, k2⟩ := up_sub a2 b2 hs
      refine ⟨by simp; omega, fun e => ?_⟩
      rw [k2 (by simpa using e)]
    · have hs : ∀ x ∈ a :: A, x ∈ B := fun x hx => by
        rcases List.mem_cons.1 (h x hx) with rfl | h'
        · exfalso
          have := b1 a hab
          rcases List.mem_cons.1 hx with e | hx
          · omega
          · have := a1 x hx; omega
        · exact h'
      obtain ⟨k1, _⟩ := up_sub hA b2 hs
      simp only [List.length_cons] at k1 ⊢
      exact ⟨by omega, fun e => by omega⟩
theorem tog_sorted {l : List Place} {c : List Int} (h : togetherL l c = true) : (sortL c).Pairwise (· < ·) := pw_of_up ((tog_iff l c).1 h).up
theorem sort_up {c : List Int} (h : c.Nodup) : (sortL c).Pairwise (· < ·) := by
  have h1 := sortL_pw c
  have h2 : (sortL c).Nodup := (sortL_perm c).nodup_iff.2 h
  exact (List.pairwise_and_iff.2 ⟨h1, h2⟩).imp fun ⟨a, b⟩ => by omega
theorem tog_nodup {l : List Place} {c : List Int} (h : togetherL l c = true) : c.Nodup :=
  (sortL_perm c).nodup_iff.1 ((tog_sorted h).imp fun h => by omega)
theorem tog_range {l : List Place} {c : List Int} (h : togetherL l c = true) : ∀ x ∈ c, 0 ≤ x ∧ x < l.length := fun x hx => ((tog_iff l c).1 h).inb x (sort_mem.2 hx)
theorem tog_ne {l : List Place} {c : List Int} (h : togetherL l c = true) : c ≠ [] := fun e => by
  have := ((tog_iff l c).1 h).ne
  rw [e] at this; exact this (by simp [sortL])
theorem tog_ordered {l : List Place} {c : List Int} (h : togetherL l c = true) : orderedP l = true := by
  have := ((tog_iff l c).1 h).ok
  rwa [seats_ok] at this
theorem bool_no {b : Bool} (h : b = true → False) : b = false := by
  cases b with
  | false => rfl
  | true => exact (h rfl).elim
theorem tog_dup {l : List Place} {c : List Int} {i : Nat} {x : Int} (hi : c[i]? = some x) (hx : x ∈ c.take i) : togetherL l c = false := bool_no fun h => by
  have hn := tog_nodup h
  obtain ⟨j, hj⟩ := List.getElem?_of_mem hx
  rw [List.getElem?_take] at hj
  split at hj
  · rename_i hlt
    obtain ⟨h1, e1⟩ := List.getElem?_eq_some_iff.1 hj
    obtain ⟨h2, e2⟩ := List.getElem?_eq_some_iff.1 hi
    exact List.pairwise_iff_getElem.1 hn j i h1 h2 hlt (e1.trans e2.symm)
  · cases hj
/-- Two chosen places stand on one kind of ground. -/
def sameK (p q : Place) : Prop := isSeat p = isSeat q ∧ (isSeat p = false → p.level = q.level ∧ p.block = q.block)
theorem sameK.trans {p q r : Place} (h : sameK p q) (k : sameK q r) : sameK p r := ⟨h.1.trans k.1, fun hp => by
  obtain ⟨a, b⟩ := h.2 hp
  obtain ⟨a', b'⟩ := k.2 (by rw [← h.1]; exact hp)
  exact ⟨a.trans a', b.trans b'⟩⟩
theorem sameK.symm {p q : Place} (h : sameK p q) : sameK q p := ⟨h.1.symm, fun hq => by
  obtain ⟨a, b⟩ := h.2 (by rw [h.1]; exact hq)
  exact ⟨a.symm, b.symm⟩⟩
theorem adj_same {p q : Place} (h : adjOk p q = true) : sameK p q := by
  simp only [adjOk, Bool.or_eq_true, Bool.and_eq_true, decide_eq_true_eq, Bool.not_eq_true', decide_eq_false_iff_not] at h
  simp only [sameK, isSeat, decide_eq_decide, decide_eq_false_iff_not]
  rcases h with h | h <;> omega
theorem adj_get {l : List Place} {s : List Int} {i : Nat} {a b : Int} {p q : Place} (h : adjAt l s (i + 1) = true) (ha : s[i]? = some a) (hb : s[i + 1]? = some b) (hp : l[a.toNat]? = some p) (hq : l[b.toNat]? = some q) : adjOk p q = true := by
  rw [adjAt, Nat.add_sub_cancel, ha, hb] at h
  dsimp only at h
  rw [hp, hq] at h
  exact h
theorem chain_same {l : List Place} {s : List Int} (h : Tg l s) : ∀ (i : Nat) a b p q, s[0]? = some a → s[i]? = some b → l[a.toNat]? = some p → l[b.toNat]? = some q → sameK p q
  | 0, a, b, p, q, ha, hb, hp, hq => by
    rw [ha] at hb; cases hb
    rw [hp] at hq; cases hq
    exact ⟨rfl, fun _ => ⟨rfl, rfl⟩⟩
  | i + 1, a, b, p, q, ha, hb, hp, hq => by
    have hi := (List.getElem?_eq_some_iff.1 hb).1
    obtain ⟨x, hx⟩ : ∃ x, s[i]? = some x := ⟨_, List.getElem?_eq_getElem (by omega)⟩
    have hin := h.inb x (List.mem_of_getElem? hx)
    obtain ⟨r, hr⟩ : ∃ r, l[x.toNat]? = some r := ⟨_, List.getElem?_eq_getElem (by omega)⟩
    exact (chain_same h i a x p r ha hx hp hr).trans (adj_same (adj_get (h.adj i hi) hx hb hr hq))
theorem tog_kind {l : List Place} {c : List Int} (h : togetherL l c = true) {a b : Int} {p q : Place} (ha : a ∈ c) (hb : b ∈ c) (hp : l[a.toNat]? = some p) (hq : l[b.toNat]? = some q) : sameK p q := by
  have ht := (tog_iff l c).1 h
  obtain ⟨i, hi⟩ := List.getElem?_of_mem (sort_mem.2 ha)
  obtain ⟨j, hj⟩ := List.getElem?_of_mem (sort_mem.2 hb)
  have hl := (List.getElem?_eq_some_iff.1 hi).1
  obtain ⟨x, hx⟩ : ∃ x, (sortL c)[0]? = some x := ⟨_, List.getElem?_eq_getElem (by omega)⟩
  have hin := ht.inb x (List.mem_of_getElem? hx)
  obtain ⟨r, hr⟩ : ∃ r, l[x.toNat]? = some r := ⟨_, List.getElem?_eq_getElem (by omega)⟩
  exact (chain_same ht i x a r p hx hi hr hp).symm.trans (chain_same ht j x b r q hx hj hr hq)
theorem up_of_pw {s : List Int} (h : s.Pairwise (· < ·)) : ∀ i a b, s[i]? = some a → s[i + 1]? = some b → a < b := fun i a b ha hb => pw_step h ha hb
theorem tog_area {l : List Place} {c : List Int} (ho : orderedP l = true) (hne : c ≠ []) (hn : c.Nodup) (hin : ∀ x ∈ c, 0 ≤ x ∧ x < l.length) (hk : ∀ a ∈ c, ∀ b ∈ c, ∀ p q, l[a.toNat]? = some p → l[b.toNat]? = some q → isSeat p = false ∧ sameK p q) : togetherL l c = true := by
  have hnes : sortL c ≠ [] := fun e => hne (List.eq_nil_of_length_eq_zero (by rw [← sortL_len, e]; rfl))
  refine (tog_iff l c).2 ⟨by rw [seats_ok]; exact ho, hnes, fun x hx => hin x (sort_mem.1 hx), up_of_pw (sort_up hn), fun i hi => ?_⟩
  obtain ⟨a, ha⟩ : ∃ a, (sortL c)[i]? = some a := ⟨_, List.getElem?_eq_getElem (by omega)⟩
  obtain ⟨b, hb⟩ : ∃ b, (sortL c)[i + 1]? = some b := ⟨_, List.getElem?_eq_getElem hi⟩
  have hac := sort_mem.1 (List.mem_of_getElem? ha)
  have hbc := sort_mem.1 (List.mem_of_getElem? hb)
  have h1 := hin a hac
  have h2 := hin b hbc
  obtain ⟨p, hp⟩ : ∃ p, l[a.toNat]? = some p := ⟨_, List.getElem?_eq_getElem (by omega)⟩
  obtain ⟨q, hq⟩ : ∃ q, l[b.toNat]? = some q := ⟨_, List.getElem?_eq_getElem (by omega)⟩
  obtain ⟨k1, k2, k3⟩ := hk a hac b hbc p q hp hq
  rw [adjAt, Nat.add_sub_cancel, ha, hb]
  dsimp only
  rw [hp, hq]
  dsimp only
  rw [k1] at k2
  have k4 := k3 k1
  have k1' : ¬ 0 ≤ p.row := by simpa [isSeat] using k1
  have k2' : ¬ 0 ≤ q.row := by simpa [isSeat] using k2.symm
  rw [adjOk, decide_eq_true (show p.row < 0 by omega), decide_eq_true (show q.row < 0 by omega), decide_eq_true k4.1, decide_eq_true k4.2]; rfl
theorem tog_single {l : List Place} {c : List Int} {x : Int} (ho : orderedP l = true) (hc : c = [x]) (h0 : 0 ≤ x) (h1 : x < l.length) : togetherL l c = true := by
  subst hc
  have e : sortL [x] = [x] := by simp [sortL]
  rw [tog_iff, e]
  refine ⟨by rw [seats_ok]; exact ho, by simp, fun y hy => by rw [List.mem_singleton.1 hy]; exact ⟨h0, h1⟩, fun i a b ha hb => by simp at hb, fun i hi => by simp at hi⟩
/-- What follows a seat is one place alone. -/
theorem next_one {l : List Place} (hok : ∀ p ∈ l, SeatOk p) (ho : orderedP l = true) {n m m' : Nat} {p q q' : Place} (hp : l[n]? = some p) (hs : isSeat p = true) (hq : l[m]? = some q) (hq' : l[m']? = some q') (h : nextP p q = true) (h' : nextP p q' = true) : m = m' := by
  obtain ⟨i, hi⟩ := List.getElem?_of_mem (seats_iff.2 ⟨hp, hs⟩)
  have h1 := next_side hok ho hi hq h
  rw [next_side hok ho hi hq' h'] at h1
  cases h1; rfl
theorem next_of_adj {l : List Place} (ho : orderedP l = true) {n m : Nat} {p q : Place} (hn : l[n]? = some p) (hm : l[m]? = some q) (hp : isSeat p = true) (hlt : n < m) (h : adjOk p q = true) : nextP p q = true := by
  have hq : isSeat q = true := by rw [← (adj_same h).1]; exact hp
  have hkb := kb_of ho hn hm hp hq hlt
  simp only [isSeat, decide_eq_true_eq] at hp hq
  simp only [adjOk, Bool.or_eq_true, Bool.and_eq_true, decide_eq_true_eq, Bool.not_eq_true', decide_eq_false_iff_not, orderP_eq, Place.next] at h
  rw [nextP_iff]
  simp only [KB] at hkb
  omega
/-- The chosen seats are the row's from the least one on. -/
theorem tog_row {l : List Place} {c : List Int} (hok : ∀ p ∈ l, SeatOk p) (h : togetherL l c = true) {r : List Int} {k : Nat} {p : Place} (hr : r ∈ freeI l []) (hk : r[k]? = (sortL c)[0]?) (hp : ∀ a, r[k]? = some a → l[a.toNat]? = some p) (hs : isSeat p = true) :
    ∀ n, n < c.length → r[k + n]? = (sortL c)[n]? := by
  have ho := tog_ordered h
  have ht := (tog_iff l c).1 h
  intro n
  induction n with
  | zero => intro _; exact hk
  | succ n ih =>
    intro hn
    have ih := ih (by omega)
    have hlen := sortL_len c
    obtain ⟨a, ha⟩ : ∃ a, (sortL c)[n]? = some a := ⟨_, List.getElem?_eq_getElem (by omega)⟩
    obtain ⟨b, hb⟩ : ∃ b, (sortL c)[n + 1]? = some b := ⟨_, List.getElem?_eq_getElem (by omega)⟩
    obtain ⟨a0, ha0⟩ : ∃ a, (sortL c)[0]? = some a := ⟨_, List.getElem?_eq_getElem (by omega)⟩
    have ia := ht.inb a (List.mem_of_getElem? ha)
    have ib := ht.inb b (List.mem_of_getElem? hb)
    obtain ⟨pa, hpa⟩ : ∃ q, l[a.toNat]? = some q := ⟨_, List.getElem?_eq_getElem (by omega)⟩
    obtain ⟨pb, hpb⟩ : ∃ q, l[b.toNat]? = some q := ⟨_, List.getElem?_eq_getElem (by omega)⟩
    have hsa : isSeat pa = true := by rw [← (chain_same ht n a0 a p pa ha0 ha (hp a0 (hk.trans ha0)) hpa).1]; exact hs
    have hab := ht.up n a b ha hb
    have hnx := next_of_adj ho hpa hpb hsa (by omega) (adj_get (ht.adj n (by omega)) ha hb hpa hpb)
    rw [ha] at ih
    rw [hb]
    obtain ⟨hlt, _⟩ := List.getElem?_eq_some_iff.1 ih
    cases hx : r[k + (n + 1)]? with
    | none =>
      exfalso
      have hll : r.length = k + n + 1 := by
        have := List.getElem?_eq_none_iff.1 hx
        omega
      have := (rowsOk hok ho).last r hr a pa pb b.toNat (by rw [hll, Nat.add_sub_cancel]; exact ih) hpa hpb
      rw [hnx] at this; cases this
    | some b' =>
      have ib' := (rowsOk hok ho).inb r hr b' (List.mem_of_getElem? hx)
      obtain ⟨pb', hpb'⟩ : ∃ q, l[b'.toNat]? = some q := ⟨_, List.getElem?_eq_getElem (by omega)⟩
      have hnx' := run_next ho hr ih (show r[k + n + 1]? = some b' from hx) hpa hpb'
      have := next_one hok ho hpa hsa hpb hpb' hnx hnx'
      congr 1; omega
/-- All of a part of a row. -/
theorem tog_part {l : List Place} {c : List Int} (ho : orderedP l = true) (hn : c.Nodup) (hne : c ≠ []) {r : List Int} {k : Nat} (hr : r ∈ freeI l []) (hk : k + c.length ≤ r.length) (hin : ∀ n x, n < c.length → r[k + n]? = some x → x ∈ c) : togetherL l c = true := by
  have hc : 0 < c.length := List.length_pos_iff.2 hne
  have hT := (run_tg ho hr).part (a := k) (b := k + c.length) (by omega) hk
  have hup := pw_of_up hT.up
  have hlen : ((r.take (k + c.length)).drop k).length = c.length := by rw [List.length_drop, List.length_take]; omega
  have hsub : ∀ x ∈ (r.take (k + c.length)).drop k, x ∈ sortL c := fun x hx => by
    obtain ⟨n, hn'⟩ := List.getElem?_of_mem hx
    have hlt := (List.getElem?_eq_some_iff.1 hn').1
    rw [hlen] at hlt
    rw [List.getElem?_drop, List.getElem?_take, if_pos (by omega)] at hn'
    exact sort_mem.2 (hin n x hlt hn')
  have he := (up_sub hup (sort_up hn) hsub).2 (by rw [hlen, sortL_len])
  rw [tog_iff, ← he]; exact hT
end Go.SX.Runs
