/-
  Runs: the reference's Together.
-/
import Derived.Test.YtlahdopmiplnoaaYA5
set_option linter.unusedSimpArgs false
set_option linter.unusedVariables false
set_option linter.unusedSectionVars false
namespace Go.SX.Runs
open Go Go.Proofs
variable {P : Program} (hP : P = Try.prog)
include hP
set_option maxHeartbeats 4000000 in
theorem refTogetherR {l : List Place} {el : List (List D)} {c : List Int} {ec : List (List D)} (hok : ∀ p ∈ l, SeatOk p) (hel : el = l.map Place.ds) (hec : ec = c.map dI) (hl : l.length ≤ 1000000) (hcl : c.length ≤ 1000000) :
    Fn1 P 18 [.d (.sl el), .d (.sl ec)] (.b (togetherL l c)) := by
  refine .walk (hP ▸ d18_ok) fun K hK => ?_
  have ll : (el.length : Int) = l.length := by simp [hel]
  have lc : (ec.length : Int) = c.length := by simp [hec]
  have no : (togetherL l c = true → False) → ∀ sv own', sv = SV.b false → K sv own' := fun h sv own' e => hK sv own' (by rw [e, bool_no h])
  have yes : togetherL l c = true → ∀ sv own', sv = SV.b true → K sv own' := fun h sv own' e => hK sv own' (by rw [e, h])
  clear hK
  cbv
  refine .f1z (orderedR hP hel (by (first | omega | ((try simp only [nc] at *); (try simp only [Int.ofNat_eq_natCast] at *); omega)))) rfl rfl ?_
  generalize ho : orderedP l = o
  cbv
  refine brk (fun h => ?_) (fun h => ?_)
  · simp only [x_not, Bool.not_eq_true'] at h
    subst h
    cbv
    exact no (fun h => by rw [tog_ordered h] at ho; cases ho) _ _ rfl
  simp only [x_not, Bool.not_eq_false'] at h
  subst h
  cbv
  refine brk (fun h => ?_) (fun h => ?_)
  · simp only [x_eq, x_len, lc, decide_eq_true_eq] at h
    cbv
    exact no (fun h' => tog_ne h' (List.eq_nil_of_length_eq_zero (by (first | omega | ((try simp only [nc] at *); (try simp only [Int.ofNat_eq_natCast] at *); omega))))) _ _ rfl
  simp only [x_eq, x_len, lc, decide_eq_false_iff_not] at h
  have hc0 : 0 < c.length := by (first | omega | ((try simp only [nc] at *); (try simp only [Int.ofNat_eq_natCast] at *); omega))
  have hcne : c ≠ [] := List.length_pos_iff.1 hc0
  cbv
  refine .intro (ι := Int) (fun k => [.d (.sl el), .d (.sl ec), .top, .top, .top, .i k] ++ List.replicate 162 .top) (fun _ => []) (fun env _ => iAt env 5)
    (fun k => 0 ≤ k ∧ k ≤ c.length ∧ (∀ x ∈ c.take k.toNat, 0 ≤ x ∧ x < l.length) ∧ (c.take k.toNat).Nodup) (fun k => c.length - k.toNat) 0 ?_ (.mt [] ?_) fun k hk Kn hKn => ?_
  · refine ⟨Int.le_refl _, Int.natCast_nonneg _, fun x hx => ?_, List.nodup_nil⟩
    cases hx
  · (cbv; repeat (refine ⟨rfl, ?_⟩; cbv))
  obtain ⟨hk0, hk1, hk2, hk3⟩ := hk
  cbv
  refine brk (fun h1 => ?_) (fun h1 => ?_)
  · simp only [x_lt, x_len, lc, decide_eq_true_eq] at h1
    cbv
    refine .map hec hk0 (by (first | omega | ((try simp only [nc] at *); (try simp only [Int.ofNat_eq_natCast] at *); omega))) (fun _ => rfl) fun x hx => ?_
    have hxm := List.mem_of_getElem? hx
    cbv
    refine brk (fun h2 => ?_) (fun h2 => ?_)
    · simp only [x_lt, decide_eq_true_eq] at h2
      cbv
      exact no (fun h' => by obtain ⟨h8, h9⟩ := tog_range h' x hxm; (first | omega | ((try simp only [nc] at *); (try simp only [Int.ofNat_eq_natCast] at *); omega))) _ _ rfl
    simp only [x_lt, decide_eq_false_iff_not] at h2
    cbv
    refine .map hec hk0 (by (first | omega | ((try simp only [nc] at *); (try simp only [Int.ofNat_eq_natCast] at *); omega))) (fun _ => rfl) fun x' hx' => ?_
    rw [hx] at hx'; cases hx'
    cbv
    refine brk (fun h3 => ?_) (fun h3 => ?_)
    · simp only [x_le, x_len, ll, decide_eq_true_eq] at h3
      cbv
      exact no (fun h' => by obtain ⟨h8, h9⟩ := tog_range h' x hxm; (first | omega | ((try simp only [nc] at *); (try simp only [Int.ofNat_eq_natCast] at *); omega))) _ _ rfl
    simp only [x_le, x_len, ll, decide_eq_false_iff_not] at h3
    cbv
    have hsub : (Classical.choice ioEx).1.sub ec (Int.ofNat 0) k = (c.take k.toNat).map dI := by
      rw [x_sub, hec, List.map_take]; rfl
    refine ⟨Int.le_refl _, hk0, by (first | omega | ((try simp only [nc] at *); (try simp only [Int.ofNat_eq_natCast] at *); omega)), ?_, ?_⟩
    · intro ds hds; rw [hec] at hds; obtain ⟨z, _, rfl⟩ := List.mem_map.1 hds; rfl
    cbv
    refine .map hec hk0 (by (first | omega | ((try simp only [nc] at *); (try simp only [Int.ofNat_eq_natCast] at *); omega))) (fun _ => rfl) fun x' hx' => ?_
    rw [hx] at hx'; cases hx'
    cbv
    refine .f1 (inR hP x hsub (by rw [List.length_take]; omega)) rfl rfl ?_
    generalize hd : decide (x ∈ c.take k.toNat) = d
    cbv
    refine brk (fun h4 => ?_) (fun h4 => ?_)
    · subst h4
      cbv
      exact no (fun h' => by have := tog_dup (l := l) hx (of_decide_eq_true hd); rw [h'] at this; cases this) _ _ rfl
    subst h4
    have hnx : ¬ x ∈ c.take k.toNat := of_decide_eq_false hd
    cbv
    refine hKn _ _ (.mt [] ?_) ?_ ?_
    · (cbv; repeat (refine ⟨rfl, ?_⟩; cbv))
    · simp only [iAt, geti, x_add]
      rw [wr64 (by (first | omega | ((try simp only [nc] at *); (try simp only [Int.ofNat_eq_natCast] at *); omega))) (by (first | omega | ((try simp only [nc] at *); (try simp only [Int.ofNat_eq_natCast] at *); omega))), toNat_succ hk0, take_succ_eq hx]
      refine ⟨by (first | omega | ((try simp only [nc] at *); (try simp only [Int.ofNat_eq_natCast] at *); omega)), by (first | omega | ((try simp only [nc] at *); (try simp only [Int.ofNat_eq_natCast] at *); omega)), fun y hy => ?_, ?_⟩
      · rcases List.mem_append.1 hy with hy | hy
        · exact hk2 y hy
        · rw [List.mem_singleton.1 hy]; exact ⟨by (first | omega | ((try simp only [nc] at *); (try simp only [Int.ofNat_eq_natCast] at *); omega)), by (first | omega | ((try simp only [nc] at *); (try simp only [Int.ofNat_eq_natCast] at *); omega))⟩
      · rw [List.nodup_append]
        refine ⟨hk3, by simp, fun a ha b hb => ?_⟩
        rw [List.mem_singleton.1 hb]
        intro e; exact hnx (e ▸ ha)
    · simp only [iAt, geti, x_add]
      rw [wr64 (by (first | omega | ((try simp only [nc] at *); (try simp only [Int.ofNat_eq_natCast] at *); omega))) (by (first | omega | ((try simp only [nc] at *); (try simp only [Int.ofNat_eq_natCast] at *); omega)))]
      (first | omega | ((try simp only [nc] at *); (try simp only [Int.ofNat_eq_natCast] at *); omega))
  simp only [x_lt, x_len, lc, decide_eq_false_iff_not] at h1
  have hke : c.take k.toNat = c := List.take_of_length_le (by (first | omega | ((try simp only [nc] at *); (try simp only [Int.ofNat_eq_natCast] at *); omega)))
  rw [hke] at hk2 hk3
  clear hKn hke hk0 hk1 h1
  cbv
  refine brk (fun h1 => ?_) (fun h1 => ?_)
  · simp only [x_eq, x_len, lc, decide_eq_true_eq] at h1
    obtain ⟨x, hx⟩ := List.length_eq_one_iff.1 (show c.length = 1 by (first | omega | ((try simp only [nc] at *); (try simp only [Int.ofNat_eq_natCast] at *); omega)))
    have hxr := hk2 x (by rw [hx]; simp)
    cbv
    exact yes (tog_single ho hx hxr.1 hxr.2) _ _ rfl
  simp only [x_eq, x_len, lc, decide_eq_false_iff_not] at h1
  cbv
  refine .map hec (Int.le_refl _) (by (first | omega | ((try simp only [nc] at *); (try simp only [Int.ofNat_eq_natCast] at *); omega))) (fun _ => rfl) fun a0 ha0 => ?_
  have ha0 : c[0]? = some a0 := ha0
  have ha0m := List.mem_of_getElem? ha0
  have ha0r := hk2 a0 ha0m
  obtain ⟨p0, hp0⟩ : ∃ p, l[a0.toNat]? = some p := ⟨_, List.getElem?_eq_getElem (by (first | omega | ((try simp only [nc] at *); (try simp only [Int.ofNat_eq_natCast] at *); omega)))⟩
  have hhd : c.headD 0 = a0 := by
    cases c with
    | nil => cases ha0
    | cons y c => cases ha0; rfl
  cbv
  refine .intro (ι := Int × Int) (fun k => [.d (.sl el), .d (.sl ec), .top, .top, .top, .top, .i k.1, .i k.2] ++ List.replicate 160 .top) (fun _ => []) (fun env _ => (iAt env 6, iAt env 7))
    (fun k => 0 ≤ k.2 ∧ k.2 ≤ c.length ∧ k.1 = minTo c k.2.toNat ∧ ∀ b ∈ c.take k.2.toNat, ∀ q, l[b.toNat]? = some q → sameK p0 q) (fun k => c.length - k.2.toNat) (a0, 0) ?_ (.mt [] ?_) fun k hk Kn hKn => ?_
  · refine ⟨Int.le_refl _, Int.natCast_nonneg _, by rw [minTo, hhd]; rfl, fun x hx => ?_⟩
    cases hx
  · (cbv; repeat (refine ⟨rfl, ?_⟩; cbv))
  obtain ⟨mi, k⟩ := k
  obtain ⟨hk0, hk1, hmi, hkk⟩ := hk
  dsimp only at hk0 hk1 hmi hkk
  cbv
  refine brk (fun h2 => ?_) (fun h2 => ?_)
  · simp only [x_lt, x_len, lc, decide_eq_true_eq] at h2
    cbv
    refine .map hec hk0 (by (first | omega | ((try simp only [nc] at *); (try simp only [Int.ofNat_eq_natCast] at *); omega))) (fun _ => rfl) fun x hx => ?_
    have hxm := List.mem_of_getElem? hx
    have hxr := hk2 x hxm
    cbv
    refine .map hel hxr.1 hxr.2 (fun _ => rfl) fun p hp => ?_
    cbv
    refine .map hec (Int.le_refl _) (by (first | omega | ((try simp only [nc] at *); (try simp only [Int.ofNat_eq_natCast] at *); omega))) (fun _ => rfl) fun a1 ha1 => ?_
    have ha1 : c[0]? = some a1 := ha1
    rw [ha0] at ha1; cases ha1
    cbv
    refine .map hel ha0r.1 ha0r.2 (fun _ => rfl) fun p1 hp1 => ?_
    rw [hp0] at hp1; cases hp1
    have fin : sameK p0 p → ∀ env' own', StLe 0 env' own' ([.d (.sl el), .d (.sl ec), .top, .top, .top, .top, .i (iAt env' 6), .i (iAt env' 7)] ++ List.replicate 160 .top) [] → iAt env' 7 = IntKind.i64.wrap (k + 1) → iAt env' 6 = min mi x → Kn env' own' := fun hsk env' own' hst hi hm => by
      refine hKn _ _ hst ?_ ?_
      · rw [hi, hm, wr64 (by (first | omega | ((try simp only [nc] at *); (try simp only [Int.ofNat_eq_natCast] at *); omega))) (by (first | omega | ((try simp only [nc] at *); (try simp only [Int.ofNat_eq_natCast] at *); omega)))]
        refine ⟨by dsimp only; (first | omega | ((try simp only [nc] at *); (try simp only [Int.ofNat_eq_natCast] at *); omega)), by dsimp only; (first | omega | ((try simp only [nc] at *); (try simp only [Int.ofNat_eq_natCast] at *); omega)), ?_, ?_⟩
        · dsimp only
          rw [toNat_succ hk0, minTo_succ hx, hmi]
        · dsimp only
          rw [toNat_succ hk0, take_succ_eq hx]
          intro b hb q hq
          rcases List.mem_append.1 hb with hb | hb
          · exact hkk b hb q hq
          · rw [List.mem_singleton.1 hb] at hq
            rw [hp] at hq; cases hq; exact hsk
      · dsimp only; rw [hi, wr64 (by (first | omega | ((try simp only [nc] at *); (try simp only [Int.ofNat_eq_natCast] at *); omega))) (by (first | omega | ((try simp only [nc] at *); (try simp only [Int.ofNat_eq_natCast] at *); omega)))]; (first | omega | ((try simp only [nc] at *); (try simp only [Int.ofNat_eq_natCast] at *); omega))
    have bad : ¬ sameK p0 p → ∀ sv own', sv = SV.b false → K sv own' := fun hns => no fun h' => hns (tog_kind h' ha0m hxm hp0 hp)
    obtain ⟨kind, level, block, row, seat, px, py, view, wit⟩ := p
    obtain ⟨kind', level', block', row', seat', px', py', view', wit'⟩ := p0
    cbv
    refine .f1 (seatR hP ⟨kind, level, block, row, seat, px, py, view, wit⟩) rfl rfl ?_
    dsimp only
    generalize hA : decide (0 ≤ row) = A
    cbv
    refine .f1 (seatR hP ⟨kind', level', block', row', seat', px', py', view', wit'⟩) rfl rfl ?_
    dsimp only
    generalize hB : decide (0 ≤ row') = B
    have sk : sameK ⟨kind', level', block', row', seat', px', py', view', wit'⟩ ⟨kind, level, block, row, seat, px, py, view, wit⟩ ↔ (B = A ∧ (B = false → level' = level ∧ block' = block)) := by
      rw [sameK, isSeat, isSeat]; dsimp only; rw [hA, hB]
    cbv
    refine brk (fun h3 => ?_) (fun h3 => ?_)
    · simp only [x_bne] at h3
      cbv
      exact bad (fun h' => by rw [(sk.1 h').1] at h3; simp at h3) _ _ rfl
    have hBA : B = A := by simp only [x_bne] at h3; exact (by simpa using h3 : A = B).symm
    subst hBA
    clear h3
    cbv
    refine .f1 (seatR hP ⟨kind, level, block, row, seat, px, py, view, wit⟩) rfl rfl ?_
    dsimp only
    rw [hA]
    cbv
    refine brk (fun h3 => ?_) (fun h3 => ?_)
    · simp only [x_not, Bool.not_eq_true'] at h3
      subst h3
      cbv
      refine brk (fun h4 => ?_) (fun h4 => ?_)
      · cbv
        refine bad (fun h' => ?_) _ _ rfl
        have := ((sk.1 h').2 rfl).1
        simp [x_not, x_eq, this] at h4
      · have hlv : level = level' := by simpa [x_not, x_eq] using h4
        cbv
        refine brk (fun h5 => ?_) (fun h5 => ?_)
        · cbv
          refine bad (fun h' => ?_) _ _ rfl
          have := ((sk.1 h').2 rfl).2
          simp [x_not, x_eq, this] at h5
        · have hbl : block = block' := by simpa [x_not, x_eq] using h5
          cbv
          refine .map hec hk0 (by (first | omega | ((try simp only [nc] at *); (try simp only [Int.ofNat_eq_natCast] at *); omega))) (fun _ => rfl) fun x' hx' => ?_
          rw [hx] at hx'; cases hx'
          cbv
          refine fin (sk.2 ⟨rfl, fun _ => ⟨hlv.symm, hbl.symm⟩⟩) _ _ (.mt [] ?_) ?_ ?_
          · (cbv; repeat (refine ⟨rfl, ?_⟩; cbv))
          · simp only [iAt, geti, x_add]
          · simp only [iAt, geti, x_min]
    · simp only [x_not, Bool.not_eq_false'] at h3
      subst h3
      cbv
      refine .map hec hk0 (by (first | omega | ((try simp only [nc] at *); (try simp only [Int.ofNat_eq_natCast] at *); omega))) (fun _ => rfl) fun x' hx' => ?_
      rw [hx] at hx'; cases hx'
      cbv
      refine fin (sk.2 ⟨rfl, fun h' => by cases h'⟩) _ _ (.mt [] ?_) ?_ ?_
      · (cbv; repeat (refine ⟨rfl, ?_⟩; cbv))
      · simp only [iAt, geti, x_add]
      · simp only [iAt, geti, x_min]
  simp only [x_lt, x_len, lc, decide_eq_false_iff_not] at h2
  have hke : c.take k.toNat = c := List.take_of_length_le (by (first | omega | ((try simp only [nc] at *); (try simp only [Int.ofNat_eq_natCast] at *); omega)))
  rw [hke] at hkk
  have hmi : mi = minTo c c.length := by rw [hmi]; congr 1; (first | omega | ((try simp only [nc] at *); (try simp only [Int.ofNat_eq_natCast] at *); omega))
  clear hKn hke hk0 hk1 h2
  obtain ⟨hm1, hm2⟩ := min_spec hcne
  rw [← hmi] at hm1 hm2
  have hmr := hk2 mi hm1
  have hsh : (sortL c)[0]? = some mi := by
    obtain ⟨y, hy⟩ : ∃ y, (sortL c)[0]? = some y := ⟨_, List.getElem?_eq_getElem (by rw [sortL_len]; exact hc0)⟩
    have h3 := hm2 y (sort_mem.1 (List.mem_of_getElem? hy))
    obtain ⟨j, hj⟩ := List.getElem?_of_mem (sort_mem.2 hm1)
    have h4 : y ≤ mi := by
      rcases Nat.eq_zero_or_pos j with rfl | hp
      · rw [hy] at hj; cases hj; exact Int.le_refl _
      · have hjl := (List.getElem?_eq_some_iff.1 hj).1
        have := List.pairwise_iff_getElem.1 (sortL_pw c) 0 j (by omega) hjl hp
        rw [(List.getElem?_eq_some_iff.1 hy).2, (List.getElem?_eq_some_iff.1 hj).2] at this; exact this
    rw [hy]; congr 1; omega
  cbv
  refine .map hel hmr.1 hmr.2 (fun _ => rfl) fun pf hpf => ?_
  have hall : isSeat pf = false → togetherL l c = true := fun hsf => tog_area ho hcne hk3 hk2 fun a ha b hb p q hp hq => by
    have h3 := hkk mi hm1 pf hpf
    have h4 := hkk a ha p hp
    exact ⟨by rw [← h4.1, h3.1]; exact hsf, h4.symm.trans (hkk b hb q hq)⟩
  have hR := refRowsR hP hel hl
  rw [refFree_eq [] hok] at hR
  have hrow : isSeat pf = true → ∀ r ∈ freeI l [], ∀ (k : Nat), r[k]? = some mi → togetherL l c = true → ∀ n, n < c.length → r[k + n]? = (sortL c)[n]? := fun hsf r hr k hk h' => tog_row hok h' hr (hk.trans hsh.symm) (p := pf) (fun a ha => by rw [hk] at ha; cases ha; exact hpf) hsf
  have hprt : ∀ r ∈ freeI l [], ∀ (k : Nat), k + c.length ≤ r.length → (∀ n x, n < c.length → r[k + n]? = some x → x ∈ c) → togetherL l c = true := fun r hr k hk h' => tog_part ho hk3 hcne hr hk h'
  have hmem : isSeat pf = true → ∃ r ∈ freeI l [], mi ∈ r := fun hsf => by
    have := (free_mem (t := []) ho (n := mi.toNat)).2 ⟨pf, hpf, hsf, takenL_nil _⟩
    rw [Int.toNat_of_nonneg hmr.1] at this
    exact List.mem_flatten.1 this
  have hrl := freeI_len l []
  have hrm : ∀ r ∈ freeI l [], r.length ≤ l.length := fun r hr => freeI_mem hr
  generalize hsf : isSeat pf = sf at hall hrow hmem
  have hsf : decide (0 ≤ pf.row) = sf := hsf
  generalize freeI l [] = rs at hR hrow hprt hmem hrl hrm
  clear hkk hmi ha0 hhd hp0 ha0m ha0r hk3 hm2 hpf
  obtain ⟨kind, level, block, row, seat, px, py, view, wit⟩ := pf
  dsimp only at hsf
  obtain ⟨er, her⟩ : ∃ er, er = rs.map dL := ⟨_, rfl⟩
  rw [← her] at hR
  have lr : (er.length : Int) = rs.length := by simp [her]
  cbv
  refine .f1 (seatR hP ⟨kind, level, block, row, seat, px, py, view, wit⟩) rfl rfl ?_
  dsimp only
  rw [hsf]
  cbv
  refine brk (fun h3 => ?_) (fun h3 => ?_)
  · simp only [x_not, Bool.not_eq_true'] at h3
    cbv
    exact yes (hall h3) _ _ rfl
  simp only [x_not, Bool.not_eq_false'] at h3
  have hrow := hrow h3
  obtain ⟨rm, hrm1, hrm2⟩ := hmem h3
  clear hall hsf h3
  cbv
  refine .f1z hR rfl rfl ?_
  clear hR
  cbv
  refine .intro (ι := Int) (fun k => [.d (.sl el), .d (.sl ec), .top, .top, .top, .top, .i mi, .top, .top, .top, .d (.sl er), .i k] ++ List.replicate 156 .top) (fun _ => []) (fun env _ => iAt env 11)
    (fun k => 0 ≤ k ∧ k ≤ rs.length ∧ ∀ r ∈ rs.take k.toNat, mi ∉ r) (fun k => rs.length - k.toNat) 0 ?_ (.mt [] ?_) fun i hi Kn hKn => ?_
  · refine ⟨Int.le_refl _, Int.natCast_nonneg _, fun x hx => ?_⟩
    cases hx
  · (cbv; repeat (refine ⟨rfl, ?_⟩; cbv))
  obtain ⟨hi0, hi1, hi2⟩ := hi
  cbv
  refine brk (fun h2 => ?_) (fun h2 => ?_)
  · simp only [x_lt, x_len, lr, decide_eq_true_eq] at h2
    obtain ⟨r, hr⟩ : ∃ r, rs[i.toNat]? = some r := ⟨_, List.getElem?_eq_getElem (by (first | omega | ((try simp only [nc] at *); (try simp only [Int.ofNat_eq_natCast] at *); omega)))⟩
    have hrmem := List.mem_of_getElem? hr
    have hrlen := hrm r hrmem
    cbv
    refine .intro (ι := Int) (fun k => [.d (.sl el), .d (.sl ec), .top, .top, .top, .top, .i mi, .top, .top, .top, .d (.sl er), .i i, .i k] ++ List.replicate 155 .top) (fun _ => []) (fun env _ => iAt env 12)
      (fun k => 0 ≤ k ∧ k ≤ r.length ∧ mi ∉ r.take k.toNat) (fun k => r.length - k.toNat) 0 ?_ (.mt [] ?_) fun k hk Kn2 hKn2 => ?_
    · exact ⟨Int.le_refl _, Int.natCast_nonneg _, fun hx => by cases hx⟩
    · (cbv; repeat (refine ⟨rfl, ?_⟩; cbv))
    obtain ⟨hk0, hk1, hk2'⟩ := hk
    cbv
    refine .lists her hi0 (by (first | omega | ((try simp only [nc] at *); (try simp only [Int.ofNat_eq_natCast] at *); omega))) fun r' y hr' hy => ?_
    rw [hr] at hr'; cases hr'
    have ly : (y.length : Int) = r.length := by simp [hy]
    cbv
    refine brk (fun h4 => ?_) (fun h4 => ?_)
    · simp only [x_lt, x_len, ly, decide_eq_true_eq] at h4
      cbv
      refine .lists her hi0 (by (first | omega | ((try simp only [nc] at *); (try simp only [Int.ofNat_eq_natCast] at *); omega))) fun r' y2 hr' hy2 => ?_
      rw [hr] at hr'; cases hr'
      cbv
      refine .map hy2 hk0 (by (first | omega | ((try simp only [nc] at *); (try simp only [Int.ofNat_eq_natCast] at *); omega))) (fun _ => rfl) fun x hx => ?_
      cbv
      refine brk (fun h5 => ?_) (fun h5 => ?_)
      · simp only [x_not, x_eq, Bool.not_eq_true', decide_eq_false_iff_not] at h5
        cbv
        refine hKn2 _ _ (.mt [] ?_) ?_ ?_
        · (cbv; repeat (refine ⟨rfl, ?_⟩; cbv))
        · simp only [iAt, geti, x_add]
          rw [wr64 (by (first | omega | ((try simp only [nc] at *); (try simp only [Int.ofNat_eq_natCast] at *); omega))) (by (first | omega | ((try simp only [nc] at *); (try simp only [Int.ofNat_eq_natCast] at *); omega))), toNat_succ hk0, take_succ_eq hx]
          refine ⟨by (first | omega | ((try simp only [nc] at *); (try simp only [Int.ofNat_eq_natCast] at *); omega)), by (first | omega | ((try simp only [nc] at *); (try simp only [Int.ofNat_eq_natCast] at *); omega)), fun hm => ?_⟩
          rcases List.mem_append.1 hm with hm | hm
          · exact hk2' hm
          · exact h5 (List.mem_singleton.1 hm).symm
        · simp only [iAt, geti, x_add]
          rw [wr64 (by (first | omega | ((try simp only [nc] at *); (try simp only [Int.ofNat_eq_natCast] at *); omega))) (by (first | omega | ((try simp only [nc] at *); (try simp only [Int.ofNat_eq_natCast] at *); omega)))]
          (first | omega | ((try simp only [nc] at *); (try simp only [Int.ofNat_eq_natCast] at *); omega))
      · simp only [x_not, x_eq, Bool.not_eq_false', decide_eq_true_eq] at h5
        subst h5
        have hrw := hrow r hrmem k.toNat hx
        have hpt := hprt r hrmem k.toNat
        clear hKn2 hKn
        cbv
        refine .intro (ι := Int) (fun n => [.d (.sl el), .d (.sl ec), .top, .top, .top, .top, .top, .top, .top, .top, .d (.sl er), .i i, .i k, .i n] ++ List.replicate 154 .top) (fun _ => []) (fun env _ => iAt env 13)
          (fun n => 0 ≤ n ∧ n ≤ c.length ∧ ∀ m : Nat, m < n.toNat → ∃ z, r[k.toNat + m]? = some z ∧ z ∈ c) (fun n => c.length - n.toNat) 0 ?_ (.mt [] ?_) fun n hn Kn3 hKn3 => ?_
        · refine ⟨Int.le_refl _, Int.natCast_nonneg _, fun m hm => ?_⟩
          exact absurd hm (Nat.not_lt_zero _)
        · (cbv; repeat (refine ⟨rfl, ?_⟩; cbv))
        obtain ⟨hn0, hn1, hn2⟩ := hn
        cbv
        refine brk (fun h6 => ?_) (fun h6 => ?_)
        · simp only [x_lt, x_len, lc, decide_eq_true_eq] at h6
          have ekn : IntKind.i64.wrap (k + n) = k + n := wr64 (by (first | omega | ((try simp only [nc] at *); (try simp only [Int.ofNat_eq_natCast] at *); omega))) (by (first | omega | ((try simp only [nc] at *); (try simp only [Int.ofNat_eq_natCast] at *); omega)))
          have etn : (k + n).toNat = k.toNat + n.toNat := by (first | omega | ((try simp only [nc] at *); (try simp only [Int.ofNat_eq_natCast] at *); omega))
          cbv
          refine .lists her hi0 (by (first | omega | ((try simp only [nc] at *); (try simp only [Int.ofNat_eq_natCast] at *); omega))) fun r' y3 hr' hy3 => ?_
          rw [hr] at hr'; cases hr'
          have ly3 : (y3.length : Int) = r.length := by simp [hy3]
          cbv
          refine brk (fun h7 => ?_) (fun h7 => ?_)
          · simp only [x_le, x_len, x_add, ekn, ly3, decide_eq_true_eq] at h7
            cbv
            refine no (fun h' => ?_) _ _ rfl
            have h8 := hrw h' n.toNat (by (first | omega | ((try simp only [nc] at *); (try simp only [Int.ofNat_eq_natCast] at *); omega)))
            have h9 : n.toNat < (sortL c).length := by rw [sortL_len]; (first | omega | ((try simp only [nc] at *); (try simp only [Int.ofNat_eq_natCast] at *); omega))
            rw [List.getElem?_eq_getElem h9] at h8
            have := (List.getElem?_eq_some_iff.1 h8).1
            (first | omega | ((try simp only [nc] at *); (try simp only [Int.ofNat_eq_natCast] at *); omega))
          simp only [x_le, x_len, x_add, ekn, ly3, decide_eq_false_iff_not] at h7
          cbv
          refine .lists her hi0 (by (first | omega | ((try simp only [nc] at *); (try simp only [Int.ofNat_eq_natCast] at *); omega))) fun r' y4 hr' hy4 => ?_
          rw [hr] at hr'; cases hr'
          cbv
          refine .map hy4 (by simp only [x_add]; rw [ekn]; (first | omega | ((try simp only [nc] at *); (try simp only [Int.ofNat_eq_natCast] at *); omega))) (by simp only [x_add]; rw [ekn]; (first | omega | ((try simp only [nc] at *); (try simp only [Int.ofNat_eq_natCast] at *); omega))) (fun _ => rfl) fun z hz => ?_
          simp only [x_add] at hz
          rw [ekn, etn] at hz
          cbv
          refine .f1 (inR hP z hec (by omega)) rfl rfl ?_
          generalize hd : decide (z ∈ c) = d
          cbv
          refine brk (fun h8 => ?_) (fun h8 => ?_)
          · simp only [x_not, Bool.not_eq_true'] at h8
            subst h8
            cbv
            refine no (fun h' => ?_) _ _ rfl
            have h9 := hrw h' n.toNat (by (first | omega | ((try simp only [nc] at *); (try simp only [Int.ofNat_eq_natCast] at *); omega)))
            rw [hz] at h9
            exact of_decide_eq_false hd (sort_mem.1 (List.mem_of_getElem? h9.symm))
          · simp only [x_not, Bool.not_eq_false'] at h8
            subst h8
            have hzc := of_decide_eq_true hd
            cbv
            refine hKn3 _ _ (.mt [] ?_) ?_ ?_
            · (cbv; repeat (refine ⟨rfl, ?_⟩; cbv))
            · simp only [iAt, geti, x_add]
              rw [wr64 (by (first | omega | ((try simp only [nc] at *); (try simp only [Int.ofNat_eq_natCast] at *); omega))) (by (first | omega | ((try simp only [nc] at *); (try simp only [Int.ofNat_eq_natCast] at *); omega))), toNat_succ hn0]
              refine ⟨by (first | omega | ((try simp only [nc] at *); (try simp only [Int.ofNat_eq_natCast] at *); omega)), by (first | omega | ((try simp only [nc] at *); (try simp only [Int.ofNat_eq_natCast] at *); omega)), fun m hm => ?_⟩
              rcases Nat.lt_or_ge m n.toNat with h9 | h9
              · exact hn2 m h9
              · have : m = n.toNat := by omega
                subst this
                exact ⟨z, hz, hzc⟩
            · simp only [iAt, geti, x_add]
              rw [wr64 (by (first | omega | ((try simp only [nc] at *); (try simp only [Int.ofNat_eq_natCast] at *); omega))) (by (first | omega | ((try simp only [nc] at *); (try simp only [Int.ofNat_eq_natCast] at *); omega)))]
              (first | omega | ((try simp only [nc] at *); (try simp only [Int.ofNat_eq_natCast] at *); omega))
        · simp only [x_lt, x_len, lc, decide_eq_false_iff_not] at h6
          have hnc : n.toNat = c.length := by (first | omega | ((try simp only [nc] at *); (try simp only [Int.ofNat_eq_natCast] at *); omega))
          rw [hnc] at hn2
          cbv
          refine yes (hpt ?_ fun m z hm hz => ?_) _ _ rfl
          · obtain ⟨z, hz, _⟩ := hn2 (c.length - 1) (by omega)
            have := (List.getElem?_eq_some_iff.1 hz).1
            omega
          · obtain ⟨z', hz', hzc⟩ := hn2 m hm
            rw [hz] at hz'; cases hz'; exact hzc
    · simp only [x_lt, x_len, ly, decide_eq_false_iff_not] at h4
      rw [List.take_of_length_le (by (first | omega | ((try simp only [nc] at *); (try simp only [Int.ofNat_eq_natCast] at *); omega)))] at hk2'
      cbv
      refine hKn _ _ (.mt [] ?_) ?_ ?_
      · (cbv; repeat (refine ⟨rfl, ?_⟩; cbv))
      · simp only [iAt, geti, x_add]
        rw [wr64 (by (first | omega | ((try simp only [nc] at *); (try simp only [Int.ofNat_eq_natCast] at *); omega))) (by (first | omega | ((try simp only [nc] at *); (try simp only [Int.ofNat_eq_natCast] at *); omega))), toNat_succ hi0, take_succ_eq hr]
        refine ⟨by (first | omega | ((try simp only [nc] at *); (try simp only [Int.ofNat_eq_natCast] at *); omega)), by (first | omega | ((try simp only [nc] at *); (try simp only [Int.ofNat_eq_natCast] at *); omega)), fun r' hr' => ?_⟩
        rcases List.mem_append.1 hr' with hr' | hr'
        · exact hi2 r' hr'
        · rw [List.mem_singleton.1 hr']; exact hk2'
      · simp only [iAt, geti, x_add]
        rw [wr64 (by (first | omega | ((try simp only [nc] at *); (try simp only [Int.ofNat_eq_natCast] at *); omega))) (by (first | omega | ((try simp only [nc] at *); (try simp only [Int.ofNat_eq_natCast] at *); omega)))]
        (first | omega | ((try simp only [nc] at *); (try simp only [Int.ofNat_eq_natCast] at *); omega))
  · simp only [x_lt, x_len, lr, decide_eq_false_iff_not] at h2
    rw [List.take_of_length_le (by (first | omega | ((try simp only [nc] at *); (try simp only [Int.ofNat_eq_natCast] at *); omega)))] at hi2
    exact absurd hrm2 (hi2 rm hrm1)
end Go.SX.Runs
