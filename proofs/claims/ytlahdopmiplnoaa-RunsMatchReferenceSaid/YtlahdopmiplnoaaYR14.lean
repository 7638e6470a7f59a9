/-
  Runs: whether places are neighbours.
-/
import Derived.Test.YtlahdopmiplnoaaYR12
set_option linter.unusedSimpArgs false
set_option linter.unusedVariables false
set_option linter.unusedSectionVars false
namespace Go.SX.Runs
open Go Go.Proofs
/-- Two places that may stand side by side in a sorted choice. -/
def adjOk (p q : Place) : Bool := (decide (p.row < 0) && (decide (q.row < 0) && (decide (p.level = q.level) && decide (p.block = q.block)))) || (!decide (p.row < 0) && (!decide (q.row < 0) && decide (orderP q p.next = 0)))
def adjAt (l : List Place) (c : List Int) (i : Nat) : Bool :=
  match c[i - 1]?, c[i]? with
  | some a, some b => (match l[a.toNat]?, l[b.toNat]? with | some p, some q => adjOk p q | _, _ => false)
  | _, _ => false
def fitL (l : List Place) (c : List Int) : Bool :=
  match c[0]?, c[c.length - 1]? with
  | some a, some b => decide (0 ≤ a) && (decide (b < l.length) && decide ((compL c).length = c.length))
  | _, _ => false
def togL (l : List Place) (c : List Int) : Bool := seatsOk l && (fitL l c && (List.range c.length).all fun i => decide (i = 0) || adjAt l c i)
def togetherL (l : List Place) (c : List Int) : Bool := togL l (sortL c)
theorem sortL_pw (c : List Int) : (sortL c).Pairwise (· ≤ ·) := by
  have := List.pairwise_mergeSort (le := fun x y : Int => decide (x ≤ y)) (fun a b c h1 h2 => by simp at *; omega) (fun a b => by simp; omega) c
  simpa [sortL] using this
theorem togL_no {l : List Place} {c : List Int} (h : fitL l c = false) : togL l c = false := by simp [togL, h]
theorem togL_bad {l : List Place} {c : List Int} {i : Nat} (h0 : 0 < i) (h1 : i < c.length) (h : adjAt l c i = false) : togL l c = false := by
  simp only [togL, Bool.and_eq_false_iff]
  refine .inr (.inr ?_)
  rw [List.all_eq_false]
  exact ⟨i, by simpa using h1, by simp [h]; omega⟩
variable {P : Program} (hP : P = Try.prog)
include hP
set_option maxHeartbeats 4000000 in
theorem togetherR {l : List Place} {el : List (List D)} {c : List Int} {ec : List (List D)} (hel : el = l.map Place.ds) (hec : ec = c.map dI) (hl : l.length ≤ 1000000000) (hc : c.length ≤ 1000000000) :
    Fn1 P 17 [.d (.sl el), .d (.sl ec)] (.b (togetherL l c)) := by
  refine .walk (hP ▸ d17_ok) fun K hK => ?_
  have ll : (el.length : Int) = l.length := by simp [hel]
  cbv
  refine .own (valuesR hP) fun sv own' h => ?_
  obtain ⟨rfl, rfl⟩ := h
  cbv
  refine .own (sortedR hP hec hc) fun sv own' h => ?_
  obtain ⟨rfl, rfl⟩ := h
  have hpw := sortL_pw c
  have hsl : (sortL c).length ≤ 1000000000 := by rw [sortL_len]; exact hc
  have hK2 : ∀ sv own', sv = SV.b (togL l (sortL c)) → K sv own' := hK
  clear hK
  generalize sortL c = s at hpw hsl hK2
  obtain ⟨es, hes⟩ : ∃ es, es = s.map dI := ⟨_, rfl⟩
  rw [← hes]
  have ls : (es.length : Int) = s.length := by simp [hes]
  cbv
  refine .f1z (seatsR hP hel hl) rfl rfl ?_
  generalize hso : seatsOk l = so
  generalize (if so = true then List.map seatD (seatsL l) else []) = rr
  cbv
  refine brk (fun h => ?_) (fun h => ?_)
  · simp only [x_not, Bool.not_eq_true'] at h
    cbv
    exact hK2 _ _ (biE (by simp [togL, hso, h]))
  simp only [x_not, Bool.not_eq_false'] at h
  cbv
  refine brk (fun h1 => ?_) (fun h1 => ?_)
  · simp only [x_eq, x_len, ls, decide_eq_true_eq] at h1
    cbv
    refine hK2 _ _ (biE (togL_no ?_).symm)
    have : s = [] := List.eq_nil_of_length_eq_zero (by (first | omega | ((try simp only [nc] at *); (try simp only [Int.ofNat_eq_natCast] at *); omega)))
    rw [this]; rfl
  simp only [x_eq, x_len, ls, decide_eq_false_iff_not] at h1
  have hs0 : 0 < s.length := by (first | omega | ((try simp only [nc] at *); (try simp only [Int.ofNat_eq_natCast] at *); omega))
  cbv
  refine .map hes (Int.le_refl _) (by (first | omega | ((try simp only [nc] at *); (try simp only [Int.ofNat_eq_natCast] at *); omega))) (fun _ => rfl) fun a ha => ?_
  have ha : s[0]? = some a := ha
  obtain ⟨b, hb⟩ : ∃ b, s[s.length - 1]? = some b := ⟨_, List.getElem?_eq_getElem (by omega)⟩
  cbv
  refine brk (fun h2 => ?_) (fun h2 => ?_)
  · simp only [x_lt, decide_eq_true_eq] at h2
    cbv
    refine hK2 _ _ (biE (togL_no ?_).symm)
    simp only [fitL, ha, hb]
    rw [decide_eq_false (by omega)]; rfl
  simp only [x_lt, decide_eq_false_iff_not] at h2
  have ew : IntKind.i64.wrap ((s.length : Int) - 1) = s.length - 1 := wr64 (by (first | omega | ((try simp only [nc] at *); (try simp only [Int.ofNat_eq_natCast] at *); omega))) (by (first | omega | ((try simp only [nc] at *); (try simp only [Int.ofNat_eq_natCast] at *); omega)))
  cbv
  refine .map hes (by simp only [x_subi, x_len, ls]; rw [ew]; (first | omega | ((try simp only [nc] at *); (try simp only [Int.ofNat_eq_natCast] at *); omega))) (by simp only [x_subi, x_len, ls]; rw [ew]; (first | omega | ((try simp only [nc] at *); (try simp only [Int.ofNat_eq_natCast] at *); omega))) (fun _ => rfl) fun b' hb' => ?_
  simp only [x_subi, x_len, ls] at hb'
  rw [ew, show ((s.length : Int) - 1).toNat = s.length - 1 by omega, hb] at hb'
  cases hb'
  cbv
  refine brk (fun h3 => ?_) (fun h3 => ?_)
  · simp only [x_le, x_len, ll, decide_eq_true_eq] at h3
    cbv
    refine hK2 _ _ (biE (togL_no ?_).symm)
    simp only [fitL, ha, hb]
    rw [decide_eq_false (show ¬ b < (l.length : Int) by (first | omega | ((try simp only [nc] at *); (try simp only [Int.ofNat_eq_natCast] at *); omega))), Bool.false_and, Bool.and_false]
  simp only [x_le, x_len, ll, decide_eq_false_iff_not] at h3
  cbv
  refine .emb [] (cloneR hP hes hsl) (by (cbv; repeat (refine ⟨rfl, ?_⟩; cbv))) fun sv0 own0' h' _ => ?_
  obtain ⟨rfl, rfl⟩ := h'
  rw [← hes]
  cbv
  refine .emb [2] (compactR hP hes hsl) (by (cbv; repeat (refine ⟨rfl, ?_⟩; cbv))) fun sv0 own0' h' _ => ?_
  obtain ⟨rfl, rfl⟩ := h'
  obtain ⟨ks, hks⟩ : ∃ ks, ks = (compL s).map dI := ⟨_, rfl⟩
  rw [← hks]
  have lk : (ks.length : Int) = (compL s).length := by simp [hks]
  cbv
  refine brk (fun h4 => ?_) (fun h4 => ?_)
  · simp only [x_lt, x_len, lk, ls, decide_eq_true_eq] at h4
    cbv
    refine hK2 _ _ (biE (togL_no ?_).symm)
    simp only [fitL, ha, hb]
    rw [decide_eq_false (show ¬ (compL s).length = s.length by (first | omega | ((try simp only [nc] at *); (try simp only [Int.ofNat_eq_natCast] at *); omega))), Bool.and_false, Bool.and_false]
  simp only [x_lt, x_len, lk, ls, decide_eq_false_iff_not] at h4
  have hfit : fitL l s = true := by
    have := cmpTo_le s s.length
    have h5 : (compL s).length = s.length := by unfold compL at h4 ⊢; (first | omega | ((try simp only [nc] at *); (try simp only [Int.ofNat_eq_natCast] at *); omega))
    simp only [fitL, ha, hb]
    rw [decide_eq_true (show 0 ≤ a by omega), decide_eq_true (show b < (l.length : Int) by (first | omega | ((try simp only [nc] at *); (try simp only [Int.ofNat_eq_natCast] at *); omega))), decide_eq_true h5]; rfl
  have hin : ∀ (i : Nat) x, s[i]? = some x → 0 ≤ x ∧ x < l.length := fun i x hx => by
    have hi := (List.getElem?_eq_some_iff.1 hx).1
    have h0 : a ≤ x := by
      rcases Nat.eq_zero_or_pos i with rfl | hp
      · rw [ha] at hx; cases hx; exact Int.le_refl _
      · have := List.pairwise_iff_getElem.1 hpw 0 i (by omega) hi hp
        rw [(List.getElem?_eq_some_iff.1 ha).2, (List.getElem?_eq_some_iff.1 hx).2] at this; exact this
    have h9 : x ≤ b := by
      by_cases hl : i = s.length - 1
      · subst hl; rw [hb] at hx; cases hx; exact Int.le_refl _
      · have := List.pairwise_iff_getElem.1 hpw i (s.length - 1) hi (by omega) (by omega)
        rw [(List.getElem?_eq_some_iff.1 hb).2, (List.getElem?_eq_some_iff.1 hx).2] at this; exact this
    constructor <;> (first | omega | ((try simp only [nc] at *); (try simp only [Int.ofNat_eq_natCast] at *); omega))
  cbv
  refine .intro (ι := Int) (fun k => [.d (.sl el), .d (.sl ec), .top, .top, .top, .d (.sl es), .top, .top, .i k] ++ List.replicate 107 .top) (fun _ => []) (fun env _ => iAt env 8)
    (fun k => 1 ≤ k ∧ k ≤ s.length ∧ ∀ i : Nat, 0 < i → i < k → adjAt l s i = true) (fun k => s.length - k.toNat) 1 ?_ (.mt [] ?_) fun k hk Kn hKn => ?_
  · exact ⟨Int.le_refl _, by (first | omega | ((try simp only [nc] at *); (try simp only [Int.ofNat_eq_natCast] at *); omega)), fun i h0 h1 => by (first | omega | ((try simp only [nc] at *); (try simp only [Int.ofNat_eq_natCast] at *); omega))⟩
  · (cbv; repeat (refine ⟨rfl, ?_⟩; cbv))
  obtain ⟨hk1, hk2, hk3⟩ := hk
  cbv
  refine brk (fun h5 => ?_) (fun h5 => ?_)
  rotate_left
  · simp only [x_lt, x_len, ls, decide_eq_false_iff_not] at h5
    cbv
    refine hK2 _ _ (biE ?_)
    have : (List.range s.length).all (fun i => decide (i = 0) || adjAt l s i) = true := by
      rw [List.all_eq_true]
      intro i hi
      rw [List.mem_range] at hi
      rcases Nat.eq_zero_or_pos i with rfl | hp
      · simp
      · rw [hk3 i hp (by (first | omega | ((try simp only [nc] at *); (try simp only [Int.ofNat_eq_natCast] at *); omega)))]; simp
    rw [togL, hso, h, hfit, this]; rfl
  simp only [x_lt, x_len, ls, decide_eq_true_eq] at h5
  have ew : IntKind.i64.wrap (k - 1) = k - 1 := wr64 (by (first | omega | ((try simp only [nc] at *); (try simp only [Int.ofNat_eq_natCast] at *); omega))) (by (first | omega | ((try simp only [nc] at *); (try simp only [Int.ofNat_eq_natCast] at *); omega)))
  cbv
  refine .map hes (by simp only [x_subi]; rw [ew]; (first | omega | ((try simp only [nc] at *); (try simp only [Int.ofNat_eq_natCast] at *); omega))) (by simp only [x_subi]; rw [ew]; (first | omega | ((try simp only [nc] at *); (try simp only [Int.ofNat_eq_natCast] at *); omega))) (fun _ => rfl) fun u hu => ?_
  simp only [x_subi] at hu
  rw [ew, show (k - 1).toNat = k.toNat - 1 by (first | omega | ((try simp only [nc] at *); (try simp only [Int.ofNat_eq_natCast] at *); omega))] at hu
  obtain ⟨u0, u1⟩ := hin _ u hu
  cbv
  refine .map hel u0 u1 (fun _ => rfl) fun p hp => ?_
  obtain ⟨kind, level, block, row, seat, x, y, view, wit⟩ := p
  cbv
  refine .map hes (by (first | omega | ((try simp only [nc] at *); (try simp only [Int.ofNat_eq_natCast] at *); omega))) h5 (fun _ => rfl) fun v hv => ?_
  obtain ⟨v0, v1⟩ := hin _ v hv
  cbv
  refine .map hel v0 v1 (fun _ => rfl) fun q hq => ?_
  obtain ⟨kind', level', block', row', seat', x', y', view', wit'⟩ := q
  have hadj : adjAt l s k.toNat = adjOk ⟨kind, level, block, row, seat, x, y, view, wit⟩ ⟨kind', level', block', row', seat', x', y', view', wit'⟩ := by
    simp only [adjAt, hu, hv, hp, hq]
  have hbad : ∀ own', adjOk ⟨kind, level, block, row, seat, x, y, view, wit⟩ ⟨kind', level', block', row', seat', x', y', view', wit'⟩ = false → K (SV.b false) own' := fun own' ho => by
    refine hK2 _ _ (biE ?_)
    rw [togL_bad (i := k.toNat) (by (first | omega | ((try simp only [nc] at *); (try simp only [Int.ofNat_eq_natCast] at *); omega))) (by (first | omega | ((try simp only [nc] at *); (try simp only [Int.ofNat_eq_natCast] at *); omega))) (by rw [hadj]; exact ho)]
  have hgood : adjOk ⟨kind, level, block, row, seat, x, y, view, wit⟩ ⟨kind', level', block', row', seat', x', y', view', wit'⟩ = true → ∀ i : Nat, 0 < i → i < k + 1 → adjAt l s i = true := fun ho i h0 h1 => by
    rcases Nat.lt_or_ge i k.toNat with hlt | hge
    · exact hk3 i h0 (by (first | omega | ((try simp only [nc] at *); (try simp only [Int.ofNat_eq_natCast] at *); omega)))
    · have : i = k.toNat := by (first | omega | ((try simp only [nc] at *); (try simp only [Int.ofNat_eq_natCast] at *); omega))
      rw [this, hadj, ho]
  generalize hw : adjOk ⟨kind, level, block, row, seat, x, y, view, wit⟩ ⟨kind', level', block', row', seat', x', y', view', wit'⟩ = w at hbad hgood
  clear hadj hu hv hp hq hin
  unfold adjOk at hw
  dsimp only at hw
  have hfol := followsR hP ⟨kind', level', block', row', seat', x', y', view', wit'⟩ ⟨kind, level, block, row, seat, x, y, view, wit⟩ 0 0
  generalize hfv : decide (orderP ⟨kind', level', block', row', seat', x', y', view', wit'⟩ (Place.next ⟨kind, level, block, row, seat, x, y, view, wit⟩) = 0) = v at hw hfol
  clear hfv ha hb hes hel hec hpw hso hks
  have kn : ∀ env' own', StLe 0 env' own' ([SV.d (D.sl el), SV.d (D.sl ec), SV.top, SV.top, SV.top, SV.d (D.sl es), SV.top, SV.top, SV.i (iAt env' 8)] ++ List.replicate 107 SV.top) [] → iAt env' 8 = IntKind.i64.wrap (k + 1) → w = true → Kn env' own' := fun env' own' hst hi hwt => by
    have e1 : IntKind.i64.wrap (k + 1) = k + 1 := wr64 (by (first | omega | ((try simp only [nc] at *); (try simp only [Int.ofNat_eq_natCast] at *); omega))) (by (first | omega | ((try simp only [nc] at *); (try simp only [Int.ofNat_eq_natCast] at *); omega)))
    refine hKn _ _ hst ?_ ?_
    · rw [hi, e1]
      exact ⟨by (first | omega | ((try simp only [nc] at *); (try simp only [Int.ofNat_eq_natCast] at *); omega)), by (first | omega | ((try simp only [nc] at *); (try simp only [Int.ofNat_eq_natCast] at *); omega)), hgood hwt⟩
    · rw [hi, e1]; (first | omega | ((try simp only [nc] at *); (try simp only [Int.ofNat_eq_natCast] at *); omega))
  clear hKn hK2 hgood hk3
  cbv
  repeat' (refine brk (fun _ => ?_) (fun _ => ?_) <;> cbv)
  all_goals try (refine .f1 hfol rfl rfl ?_; cbv; refine brk (fun _ => ?_) (fun _ => ?_) <;> cbv)
  all_goals first
    | (refine hbad _ ?_
       (clear hbad kn hfol; rw [← hw]; simp_all only [x_lt, x_eq, x_not, decide_eq_true_eq, decide_eq_false_iff_not, Bool.not_eq_true', decide_true, decide_false, Bool.true_and, Bool.false_and, Bool.and_false, Bool.or_false, Bool.not_true, Bool.not_false, Bool.false_eq_true, Bool.true_eq_false]))
    | (refine kn _ _ (.mt [] ?_) ?_ ?_
       · (cbv; repeat (refine ⟨rfl, ?_⟩; cbv))
       · simp only [iAt, geti, x_add]
       · (clear hbad kn hfol; rw [← hw]; simp_all only [x_lt, x_eq, x_not, decide_eq_true_eq, decide_eq_false_iff_not, Bool.not_eq_false', decide_true, decide_false, Bool.false_and, Bool.and_true, Bool.and_false, Bool.or_true, Bool.or_false, Bool.not_true, Bool.not_false, Bool.false_eq_true, Bool.true_eq_false]))
end Go.SX.Runs
