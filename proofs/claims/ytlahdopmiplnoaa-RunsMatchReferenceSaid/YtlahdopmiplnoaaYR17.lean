/-
  Runs: the second law's walk.
-/
import Derived.Test.YtlahdopmiplnoaaYR15
set_option linter.unusedSimpArgs false
set_option linter.unusedVariables false
set_option linter.unusedSectionVars false
namespace Go.SX.Runs
open Go Go.Proofs
structure RowsOk (l : List Place) (rs : List (List Int)) : Prop where
  ne : ∀ r ∈ rs, r ≠ []
  inb : ∀ r ∈ rs, ∀ n ∈ r, 0 ≤ n ∧ n < l.length
  nxt : ∀ r ∈ rs, ∀ (k : Nat) a b p q, r[k]? = some a → r[k + 1]? = some b → l[a.toNat]? = some p → l[b.toNat]? = some q → nextP p q = true
  last : ∀ r ∈ rs, ∀ a p q (n : Nat), r[r.length - 1]? = some a → l[a.toNat]? = some p → l[n]? = some q → nextP p q = false
  cnt : ∀ (n : Nat) p, l[n]? = some p → decide (0 ≤ p.row) = decide (rs.flatten.count (n : Int) = 1) ∧ rs.flatten.count (n : Int) ≤ 1
/-- How often each index stands in a list. -/
def cntE (n : Nat) (xs : List Int) : List Int := (List.range n).map fun (j : Nat) => (xs.count (j : Int) : Int)
theorem cntE_len (n : Nat) (xs : List Int) : (cntE n xs).length = n := by simp [cntE]
theorem cntE_get {n : Nat} {xs : List Int} {j : Nat} (h : j < n) : (cntE n xs)[j]? = some (xs.count (j : Int) : Int) := by
  rw [cntE, List.getElem?_map, List.getElem?_range h]; rfl
theorem cntE_set {n : Nat} {xs : List Int} {x : Int} (h0 : 0 ≤ x) : (cntE n xs).set x.toNat (xs.count x + 1 : Int) = cntE n (xs ++ [x]) := by
  apply List.ext_getElem?
  intro j
  rw [List.getElem?_set, cntE_len]
  by_cases hj : j < n
  · rw [cntE_get hj, cntE_get hj, List.count_append]
    split
    · rename_i e
      subst e
      rw [if_pos hj]
      have : ((x.toNat : Nat) : Int) = x := by omega
      rw [this]; simp
    · rename_i e
      have : ¬ x = (j : Int) := by omega
      simp [this]
  · have h1 : (cntE n xs)[j]? = none := List.getElem?_eq_none (by rw [cntE_len]; omega)
    have h2 : (cntE n (xs ++ [x]))[j]? = none := List.getElem?_eq_none (by rw [cntE_len]; omega)
    rw [h1, h2]
    split
    · rw [if_neg (by omega)]
    · rfl
theorem pre_count {rs : List (List Int)} {i k : Nat} {r : List Int} (h : rs[i]? = some r) (x : Int) : ((rs.take i).flatten ++ r.take k).count x ≤ rs.flatten.count x := by
  have h1 : rs.flatten = (rs.take i).flatten ++ (r ++ (rs.drop (i + 1)).flatten) := by
    have hi := (List.getElem?_eq_some_iff.1 h)
    obtain ⟨hi, he⟩ := hi
    have : rs = rs.take i ++ (r :: rs.drop (i + 1)) := by rw [← he, ← List.drop_eq_getElem_cons hi, List.take_append_drop]
    conv => lhs; rw [this]
    simp
  have h2 : r = r.take k ++ r.drop k := (List.take_append_drop k r).symm
  rw [h1, List.count_append, List.count_append, List.count_append]
  have h3 : (r.take k).count x ≤ r.count x := (List.take_sublist k r).count_le x
  omega
theorem cntE_le {n : Nat} {xs : List Int} {v : Int} {j : Nat} (h : (cntE n xs)[j]? = some v) : 0 ≤ v ∧ v ≤ xs.length := by
  have hj : j < n := by have := (List.getElem?_eq_some_iff.1 h).1; rwa [cntE_len] at this
  rw [cntE_get hj] at h; cases h
  have := List.count_le_length (a := (j : Int)) (l := xs)
  omega
theorem take_flat {rs : List (List Int)} {k : Nat} {r : List Int} (h : rs[k]? = some r) : (rs.take (k + 1)).flatten = (rs.take k).flatten ++ r := by
  rw [take_succ_eq h, List.flatten_append]; simp
variable {P : Program} (hP : P = Try.prog)
include hP
set_option maxHeartbeats 1000000 in
theorem law4 {l : List Place} {el : List (List D)} (hel : el = l.map Place.ds) (hok : l.length ≤ 60 → orderedP l = true → RowsOk l (freeI l [])) : Fn1 P 4 [.d (.sl el)] (.b true) := by
  refine .walk (hP ▸ d4_ok) fun K hK => ?_
  have la : (el.length : Int) = l.length := by simp [hel]
  cbv
  refine .f1z (headR hP) rfl rfl ?_
  cbv
  refine .f1z (fewR hP (t := []) (c := []) hel rfl rfl) rfl rfl ?_
  generalize hf : (decide (l.length ≤ 60) && _) = f
  cbv
  refine brk (fun h => ?_) (fun h => ?_)
  · cbv; exact hK _ _ rfl
  simp only [x_not, Bool.not_eq_false'] at h
  subst h
  have hl60 : l.length ≤ 60 := by simpa using hf
  clear hf
  cbv
  refine .f1z (orderedR hP hel (by (first | omega | ((try simp only [nc] at *); (try simp only [Int.ofNat_eq_natCast] at *); omega)))) rfl rfl ?_
  generalize ho : orderedP l = o
  cbv
  refine brk (fun h => ?_) (fun h => ?_)
  · cbv; exact hK _ _ rfl
  simp only [x_not, Bool.not_eq_false'] at h
  subst h
  have hR := hok hl60 ho
  have hrl := freeI_len l []
  have hrm2 : ∀ r ∈ freeI l [], r.length ≤ l.length := fun r hr => freeI_mem hr
  cbv
  refine .f1z (rowsR hP hel (by (first | omega | ((try simp only [nc] at *); (try simp only [Int.ofNat_eq_natCast] at *); omega)))) rfl rfl ?_
  generalize freeI l [] = rs at hR hrl hrm2
  obtain ⟨er, her⟩ : ∃ er, er = rs.map dL := ⟨_, rfl⟩
  rw [← her]
  have lr : (er.length : Int) = rs.length := by simp [her]
  cbv
  refine .of (m := l.length) (by simp only [x_len, la]) (by (first | omega | ((try simp only [nc] at *); (try simp only [Int.ofNat_eq_natCast] at *); omega))) (by decide) ?_
  cbv
  refine .intro (ι := Int × List (List D)) (fun q => [.d (.sl el), .top, .top, .b true, .d (.sl er), .hd 0, .i q.1] ++ List.replicate 136 .top) (fun q => [.row 3 1 q.2]) (fun env own => (iAt env 6, rAt own 0))
    (fun q => 0 ≤ q.1 ∧ q.1 ≤ rs.length ∧ q.2 = (cntE l.length (rs.take q.1.toNat).flatten).map dI) (fun q => rs.length - q.1.toNat) (0, (Classical.choice ioEx).1.rep ((Classical.choice ioEx).1.len el) [.val (.int .i64 0)]) ?_ (.mt [0] ?_) fun q hq Kn hKn => ?_
  · refine ⟨Int.le_refl _, Int.natCast_nonneg _, ?_⟩
    simp only [x_rep, x_len, la]
    rw [show (Int.toNat (l.length : Int)) = l.length by (first | omega | ((try simp only [nc] at *); (try simp only [Int.ofNat_eq_natCast] at *); omega))]
    apply List.ext_getElem?
    intro j
    rw [List.getElem?_map]
    by_cases hj : j < l.length
    · rw [cntE_get hj]; simp [hj, dI]
    · have h1 : (cntE l.length (List.take (Int.toNat 0) rs).flatten)[j]? = none := List.getElem?_eq_none (by rw [cntE_len]; (first | omega | ((try simp only [nc] at *); (try simp only [Int.ofNat_eq_natCast] at *); omega)))
      rw [h1]; simp; (first | omega | ((try simp only [nc] at *); (try simp only [Int.ofNat_eq_natCast] at *); omega))
  · (cbv; repeat (refine ⟨rfl, ?_⟩; cbv))
  obtain ⟨i, eo⟩ := q
  obtain ⟨hi0, hi1, heo⟩ := hq
  dsimp only at hi0 hi1 heo
  cbv
  refine brk (fun h => ?_) (fun h => ?_)
  · simp only [x_lt, x_len, lr, decide_eq_true_eq] at h
    cbv
    refine .lists her hi0 (by (first | omega | ((try simp only [nc] at *); (try simp only [Int.ofNat_eq_natCast] at *); omega))) fun r y hr hy => ?_
    have hrm := List.mem_of_getElem? hr
    have hrne := hR.ne r hrm
    have hrl2 := hrm2 r hrm
    have hr3 : 0 < r.length := List.length_pos_iff.2 hrne
    have hinb := hR.inb r hrm
    have hnxt := hR.nxt r hrm
    have hlast := hR.last r hrm
    have ly : (y.length : Int) = r.length := by simp [hy]
    cbv
    refine brk (fun h1 => ?_) (fun h1 => ?_)
    · cbv
      simp only [x_eq, x_len, ly, decide_eq_true_eq] at h1
      exfalso; (first | omega | ((try simp only [nc] at *); (try simp only [Int.ofNat_eq_natCast] at *); omega))
    clear h1
    cbv
    refine .intro (ι := Int × List (List D)) (fun q => [.d (.sl el), .top, .top, .b true, .d (.sl er), .hd 0, .i i, .i q.1] ++ List.replicate 135 .top) (fun q => [.row 3 1 q.2]) (fun env own => (iAt env 7, rAt own 0))
      (fun q => 0 ≤ q.1 ∧ q.1 ≤ r.length ∧ q.2 = (cntE l.length ((rs.take i.toNat).flatten ++ r.take q.1.toNat)).map dI) (fun q => r.length - q.1.toNat) (0, eo) ?_ (.mt [0] ?_) fun q hq Kn2 hKn2 => ?_
    · refine ⟨Int.le_refl _, Int.natCast_nonneg _, ?_⟩
      rw [heo]; simp
    · (cbv; repeat (refine ⟨rfl, ?_⟩; cbv))
    obtain ⟨k, eo2⟩ := q
    obtain ⟨hk0, hk1, heo2⟩ := hq
    dsimp only at hk0 hk1 heo2
    have leo2 : eo2.length = l.length := by rw [heo2, List.length_map, cntE_len]
    cbv
    refine .lists her hi0 (by (first | omega | ((try simp only [nc] at *); (try simp only [Int.ofNat_eq_natCast] at *); omega))) fun r' y2 hr' hy2 => ?_
    rw [hr] at hr'; cases hr'
    have ly2 : (y2.length : Int) = r.length := by simp [hy2]
    cbv
    refine brk (fun h1 => ?_) (fun h1 => ?_)
    · simp only [x_lt, x_len, ly2, decide_eq_true_eq] at h1
      cbv
      refine .lists her hi0 (by (first | omega | ((try simp only [nc] at *); (try simp only [Int.ofNat_eq_natCast] at *); omega))) fun r' y3 hr' hy3 => ?_
      rw [hr] at hr'; cases hr'
      cbv
      refine .map hy3 hk0 (by (first | omega | ((try simp only [nc] at *); (try simp only [Int.ofNat_eq_natCast] at *); omega))) (fun _ => rfl) fun n hn => ?_
      obtain ⟨n0, n1⟩ := hinb n (List.mem_of_getElem? hn)
      have step : ∀ v : Int, (cntE l.length ((rs.take i.toNat).flatten ++ r.take k.toNat))[n.toNat]? = some v → IntKind.i64.wrap (v + 1) = v + 1 ∧ (cntE l.length ((rs.take i.toNat).flatten ++ r.take k.toNat)).set n.toNat (v + 1) = cntE l.length ((rs.take i.toNat).flatten ++ r.take (k.toNat + 1)) := fun v hv => by
        have hv' := hv
        rw [cntE_get (by (first | omega | ((try simp only [nc] at *); (try simp only [Int.ofNat_eq_natCast] at *); omega)))] at hv'
        have e1 : ((n.toNat : Nat) : Int) = n := by (first | omega | ((try simp only [nc] at *); (try simp only [Int.ofNat_eq_natCast] at *); omega))
        rw [e1] at hv'
        obtain ⟨p, hp⟩ : ∃ p, l[n.toNat]? = some p := ⟨_, List.getElem?_eq_getElem (by (first | omega | ((try simp only [nc] at *); (try simp only [Int.ofNat_eq_natCast] at *); omega)))⟩
        have hc := (hR.cnt n.toNat p hp).2
        have hpc := pre_count (k := k.toNat) hr (n.toNat : Int)
        rw [e1] at hc hpc
        have hvv : v = (((rs.take i.toNat).flatten ++ r.take k.toNat).count n : Int) := by simpa using hv'.symm
        refine ⟨wr64 (by (first | omega | ((try simp only [nc] at *); (try simp only [Int.ofNat_eq_natCast] at *); omega))) (by (first | omega | ((try simp only [nc] at *); (try simp only [Int.ofNat_eq_natCast] at *); omega))), ?_⟩
        rw [hvv, cntE_set n0, take_succ_eq hn, List.append_assoc]
      have hla : n < (l.length : Int) := n1
      cbv
      refine brk (fun h2 => ?_) (fun h2 => ?_)
      · cbv; simp only [x_lt, decide_eq_true_eq] at h2; exfalso; (first | omega | ((try simp only [nc] at *); (try simp only [Int.ofNat_eq_natCast] at *); omega))
      clear h2
      cbv
      refine brk (fun h2 => ?_) (fun h2 => ?_)
      · cbv; simp only [x_le, x_len, la, decide_eq_true_eq] at h2; exfalso; (first | omega | ((try simp only [nc] at *); (try simp only [Int.ofNat_eq_natCast] at *); omega))
      clear h2
      have fin : ∀ v : Int, (cntE l.length ((rs.take i.toNat).flatten ++ r.take k.toNat))[n.toNat]? = some v → ∀ env' own', StLe 0 env' own' ([.d (.sl el), .top, .top, .b true, .d (.sl er), .hd 0, .i i, .i (iAt env' 7)] ++ List.replicate 135 .top) [.row 3 1 (rAt own' 0)] →
          iAt env' 7 = IntKind.i64.wrap (k + 1) → rAt own' 0 = eo2.set n.toNat (dI (IntKind.i64.wrap (v + 1))) → Kn2 env' own' := fun v hv env' own' hst hi ho => by
        obtain ⟨s1, s2⟩ := step v hv
        have e1 : IntKind.i64.wrap (k + 1) = k + 1 := wr64 (by (first | omega | ((try simp only [nc] at *); (try simp only [Int.ofNat_eq_natCast] at *); omega))) (by (first | omega | ((try simp only [nc] at *); (try simp only [Int.ofNat_eq_natCast] at *); omega)))
        refine hKn2 _ _ hst ?_ ?_
        · rw [hi, ho, e1, s1]
          refine ⟨by dsimp only; (first | omega | ((try simp only [nc] at *); (try simp only [Int.ofNat_eq_natCast] at *); omega)), by dsimp only; (first | omega | ((try simp only [nc] at *); (try simp only [Int.ofNat_eq_natCast] at *); omega)), ?_⟩
          dsimp only
          rw [show (k + 1).toNat = k.toNat + 1 by (first | omega | ((try simp only [nc] at *); (try simp only [Int.ofNat_eq_natCast] at *); omega)), ← s2, heo2, List.map_set]
        · rw [hi, e1]; (first | omega | ((try simp only [nc] at *); (try simp only [Int.ofNat_eq_natCast] at *); omega))
      have hnn : n < (eo2.length : Int) := by rw [leo2]; exact n1
      cbv
      refine brk (fun h2 => ?_) (fun h2 => ?_)
      · simp only [x_lt, decide_eq_true_eq] at h2
        have ew : IntKind.i64.wrap (k - 1) = k - 1 := wr64 (by (first | omega | ((try simp only [nc] at *); (try simp only [Int.ofNat_eq_natCast] at *); omega))) (by (first | omega | ((try simp only [nc] at *); (try simp only [Int.ofNat_eq_natCast] at *); omega)))
        have em : max (k - 1) 0 = k - 1 := by (first | omega | ((try simp only [nc] at *); (try simp only [Int.ofNat_eq_natCast] at *); omega))
        cbv
        refine .lists her hi0 (by (first | omega | ((try simp only [nc] at *); (try simp only [Int.ofNat_eq_natCast] at *); omega))) fun r' y4 hr' hy4 => ?_
        rw [hr] at hr'; cases hr'
        cbv
        refine .map hy4 (by simp only [x_subi, x_max]; rw [ew, em]; (first | omega | ((try simp only [nc] at *); (try simp only [Int.ofNat_eq_natCast] at *); omega))) (by simp only [x_subi, x_max]; rw [ew, em]; (first | omega | ((try simp only [nc] at *); (try simp only [Int.ofNat_eq_natCast] at *); omega))) (fun _ => rfl) fun a ha => ?_
        simp only [x_subi, x_max] at ha
        rw [ew, em] at ha
        obtain ⟨a0, a1⟩ := hinb a (List.mem_of_getElem? ha)
        cbv
        refine .map hel a0 a1 (fun _ => rfl) fun p hp => ?_
        cbv
        refine .map hel n0 n1 (fun _ => rfl) fun q hq => ?_
        have hnx : nextP p q = true := hnxt (k - 1).toNat a n p q ha (by rw [show (k - 1).toNat + 1 = k.toNat by (first | omega | ((try simp only [nc] at *); (try simp only [Int.ofNat_eq_natCast] at *); omega))]; exact hn) hp hq
        obtain ⟨kind, level, block, row, seat, px, py, view, wit⟩ := p
        obtain ⟨kind', level', block', row', seat', px', py', view', wit'⟩ := q
        cbv
        refine .f1 (nextR hP ⟨kind, level, block, row, seat, px, py, view, wit⟩ ⟨kind', level', block', row', seat', px', py', view', wit'⟩) rfl rfl ?_
        rw [hnx]
        cbv
        refine brk (fun h3 => ?_) (fun h3 => ?_)
        · cbv; simp [x_not] at h3
        clear h3
        cbv
        refine ⟨n0, hnn, ?_⟩
        cbv
        refine .map heo2 (by simp only [x_nat]; rw [cntE_len]; (first | omega | ((try simp only [nc] at *); (try simp only [Int.ofNat_eq_natCast] at *); omega))) fun v hv => ?_
        simp only [x_nat] at hv
        cbv
        refine ⟨n0, hnn, ?_⟩
        cbv
        refine .map heo2 (by simp only [x_nat]; rw [cntE_len]; (first | omega | ((try simp only [nc] at *); (try simp only [Int.ofNat_eq_natCast] at *); omega))) fun v' hv' => ?_
        cbv
        refine fin v hv _ _ (.mt [0] ?_) ?_ ?_
        · (cbv; repeat (refine ⟨rfl, ?_⟩; cbv))
        · simp only [iAt, geti, x_add]
        · simp only [rAt, getr, x_add, x_set, x_nat]; rfl
      · simp only [x_lt, decide_eq_false_iff_not] at h2
        cbv
        refine ⟨n0, hnn, ?_⟩
        cbv
        refine .map heo2 (by simp only [x_nat]; rw [cntE_len]; (first | omega | ((try simp only [nc] at *); (try simp only [Int.ofNat_eq_natCast] at *); omega))) fun v hv => ?_
        simp only [x_nat] at hv
        cbv
        refine ⟨n0, hnn, ?_⟩
        cbv
        refine .map heo2 (by simp only [x_nat]; rw [cntE_len]; (first | omega | ((try simp only [nc] at *); (try simp only [Int.ofNat_eq_natCast] at *); omega))) fun v' hv' => ?_
        cbv
        refine fin v hv _ _ (.mt [0] ?_) ?_ ?_
        · (cbv; repeat (refine ⟨rfl, ?_⟩; cbv))
        · simp only [iAt, geti, x_add]
        · simp only [rAt, getr, x_add, x_set, x_nat]; rfl
    · simp only [x_lt, x_len, ly2, decide_eq_false_iff_not] at h1
      have hke : r.take k.toNat = r := List.take_of_length_le (by (first | omega | ((try simp only [nc] at *); (try simp only [Int.ofNat_eq_natCast] at *); omega)))
      rw [hke] at heo2
      clear hKn2
      cbv
      refine .intro (ι := Int) (fun j => [.d (.sl el), .top, .top, .b true, .d (.sl er), .hd 0, .i i, .top, .top, .i j] ++ List.replicate 133 .top) (fun _ => [.row 3 1 eo2]) (fun env _ => iAt env 9)
        (fun j => 0 ≤ j ∧ j ≤ l.length) (fun j => l.length - j.toNat) 0 ?_ (.mt [0] ?_) fun j hj Kn3 hKn3 => ?_
      · exact ⟨Int.le_refl _, Int.natCast_nonneg _⟩
      · (cbv; repeat (refine ⟨rfl, ?_⟩; cbv))
      obtain ⟨hj0, hj1⟩ := hj
      cbv
      refine brk (fun h2 => ?_) (fun h2 => ?_)
      · simp only [x_lt, x_len, la, decide_eq_true_eq] at h2
        cbv
        refine .lists her hi0 (by (first | omega | ((try simp only [nc] at *); (try simp only [Int.ofNat_eq_natCast] at *); omega))) fun r' y5 hr' hy5 => ?_
        rw [hr] at hr'; cases hr'
        cbv
        refine .lists her hi0 (by (first | omega | ((try simp only [nc] at *); (try simp only [Int.ofNat_eq_natCast] at *); omega))) fun r' y6 hr' hy6 => ?_
        rw [hr] at hr'; cases hr'
        have ly6 : (y6.length : Int) = r.length := by simp [hy6]
        have ew : IntKind.i64.wrap ((r.length : Int) - 1) = r.length - 1 := wr64 (by (first | omega | ((try simp only [nc] at *); (try simp only [Int.ofNat_eq_natCast] at *); omega))) (by (first | omega | ((try simp only [nc] at *); (try simp only [Int.ofNat_eq_natCast] at *); omega)))
        cbv
        refine .map hy5 (by simp only [x_subi, x_len, ly6]; rw [ew]; (first | omega | ((try simp only [nc] at *); (try simp only [Int.ofNat_eq_natCast] at *); omega))) (by simp only [x_subi, x_len, ly6]; rw [ew]; (first | omega | ((try simp only [nc] at *); (try simp only [Int.ofNat_eq_natCast] at *); omega))) (fun _ => rfl) fun a ha => ?_
        simp only [x_subi, x_len, ly6] at ha
        rw [ew, show ((r.length : Int) - 1).toNat = r.length - 1 by (first | omega | ((try simp only [nc] at *); (try simp only [Int.ofNat_eq_natCast] at *); omega))] at ha
        obtain ⟨a0, a1⟩ := hinb a (List.mem_of_getElem? ha)
        cbv
        refine .map hel a0 a1 (fun _ => rfl) fun p hp => ?_
        cbv
        refine .map hel hj0 h2 (fun _ => rfl) fun q hq => ?_
        have hnx : nextP p q = false := hlast a p q j.toNat ha hp hq
        obtain ⟨kind, level, block, row, seat, px, py, view, wit⟩ := p
        obtain ⟨kind', level', block', row', seat', px', py', view', wit'⟩ := q
        cbv
        refine .f1 (nextR hP ⟨kind, level, block, row, seat, px, py, view, wit⟩ ⟨kind', level', block', row', seat', px', py', view', wit'⟩) rfl rfl ?_
        rw [hnx]
        cbv
        refine hKn3 _ _ (.mt [0] ?_) ?_ ?_
        · (cbv; repeat (refine ⟨rfl, ?_⟩; cbv))
        · simp only [iAt, geti, x_add]
          rw [wr64 (by (first | omega | ((try simp only [nc] at *); (try simp only [Int.ofNat_eq_natCast] at *); omega))) (by (first | omega | ((try simp only [nc] at *); (try simp only [Int.ofNat_eq_natCast] at *); omega)))]
          exact ⟨by (first | omega | ((try simp only [nc] at *); (try simp only [Int.ofNat_eq_natCast] at *); omega)), by (first | omega | ((try simp only [nc] at *); (try simp only [Int.ofNat_eq_natCast] at *); omega))⟩
        · simp only [iAt, geti, x_add]
          rw [wr64 (by (first | omega | ((try simp only [nc] at *); (try simp only [Int.ofNat_eq_natCast] at *); omega))) (by (first | omega | ((try simp only [nc] at *); (try simp only [Int.ofNat_eq_natCast] at *); omega)))]
          (first | omega | ((try simp only [nc] at *); (try simp only [Int.ofNat_eq_natCast] at *); omega))
      · cbv
        refine hKn _ _ (.mt [0] ?_) ?_ ?_
        · (cbv; repeat (refine ⟨rfl, ?_⟩; cbv))
        · simp only [iAt, geti, rAt, getr, x_add]
          rw [wr64 (by (first | omega | ((try simp only [nc] at *); (try simp only [Int.ofNat_eq_natCast] at *); omega))) (by (first | omega | ((try simp only [nc] at *); (try simp only [Int.ofNat_eq_natCast] at *); omega)))]
          refine ⟨by (first | omega | ((try simp only [nc] at *); (try simp only [Int.ofNat_eq_natCast] at *); omega)), by (first | omega | ((try simp only [nc] at *); (try simp only [Int.ofNat_eq_natCast] at *); omega)), ?_⟩
          rw [show (i + 1).toNat = i.toNat + 1 by (first | omega | ((try simp only [nc] at *); (try simp only [Int.ofNat_eq_natCast] at *); omega)), take_flat hr, heo2]
        · simp only [iAt, geti, x_add]
          rw [wr64 (by (first | omega | ((try simp only [nc] at *); (try simp only [Int.ofNat_eq_natCast] at *); omega))) (by (first | omega | ((try simp only [nc] at *); (try simp only [Int.ofNat_eq_natCast] at *); omega)))]
          (first | omega | ((try simp only [nc] at *); (try simp only [Int.ofNat_eq_natCast] at *); omega))
  · simp only [x_lt, x_len, lr, decide_eq_false_iff_not] at h
    rw [List.take_of_length_le (by (first | omega | ((try simp only [nc] at *); (try simp only [Int.ofNat_eq_natCast] at *); omega)))] at heo
    have leo : eo.length = l.length := by rw [heo, List.length_map, cntE_len]
    have hcnt := hR.cnt
    clear hKn hR
    cbv
    refine .intro (ι := Int) (fun j => [.d (.sl el), .top, .top, .b true, .top, .hd 0, .top, .top, .top, .top, .i j] ++ List.replicate 132 .top) (fun _ => [.row 3 1 eo]) (fun env _ => iAt env 10)
      (fun j => 0 ≤ j ∧ j ≤ l.length) (fun j => l.length - j.toNat) 0 ?_ (.mt [0] ?_) fun j hj Kn3 hKn3 => ?_
    · exact ⟨Int.le_refl _, Int.natCast_nonneg _⟩
    · (cbv; repeat (refine ⟨rfl, ?_⟩; cbv))
    obtain ⟨hj0, hj1⟩ := hj
    cbv
    refine brk (fun h2 => ?_) (fun h2 => ?_)
    · simp only [x_lt, x_len, la, decide_eq_true_eq] at h2
      have hjn : j < (eo.length : Int) := by rw [leo]; exact h2
      cbv
      refine .map hel hj0 h2 (fun _ => rfl) fun p hp => ?_
      obtain ⟨c1, c2⟩ := hcnt j.toNat p hp
      simp only [Int.toNat_of_nonneg hj0] at c1 c2
      obtain ⟨kind, level, block, row, seat, px, py, view, wit⟩ := p
      dsimp only at c1
      cbv
      refine .f1 (seatR hP ⟨kind, level, block, row, seat, px, py, view, wit⟩) rfl rfl ?_
      dsimp only
      rw [c1]
      generalize hcc : rs.flatten.count j = cc at c1 c2
      cbv
      refine ⟨hj0, hjn, ?_⟩
      cbv
      refine .map heo (by simp only [x_nat]; rw [cntE_len]; (first | omega | ((try simp only [nc] at *); (try simp only [Int.ofNat_eq_natCast] at *); omega))) fun v hv => ?_
      simp only [x_nat] at hv
      rw [cntE_get (by (first | omega | ((try simp only [nc] at *); (try simp only [Int.ofNat_eq_natCast] at *); omega)))] at hv
      simp only [Int.toNat_of_nonneg hj0, hcc] at hv
      have hv : v = cc := by simpa using hv.symm
      subst hv
      cbv
      refine brk (fun h3 => ?_) (fun h3 => ?_)
      · cbv
        simp [x_bne, x_eq] at h3
        exfalso; exact h3 (by constructor <;> intro h4 <;> (first | omega | ((try simp only [nc] at *); (try simp only [Int.ofNat_eq_natCast] at *); omega)))
      clear h3
      cbv
      refine ⟨hj0, hjn, ?_⟩
      cbv
      refine .map heo (by simp only [x_nat]; rw [cntE_len]; (first | omega | ((try simp only [nc] at *); (try simp only [Int.ofNat_eq_natCast] at *); omega))) fun v hv => ?_
      simp only [x_nat] at hv
      rw [cntE_get (by (first | omega | ((try simp only [nc] at *); (try simp only [Int.ofNat_eq_natCast] at *); omega)))] at hv
      simp only [Int.toNat_of_nonneg hj0, hcc] at hv
      have hv : v = cc := by simpa using hv.symm
      subst hv
      cbv
      refine brk (fun h3 => ?_) (fun h3 => ?_)
      · cbv
        simp only [x_lt, decide_eq_true_eq] at h3
        exfalso; (first | omega | ((try simp only [nc] at *); (try simp only [Int.ofNat_eq_natCast] at *); omega))
      cbv
      refine hKn3 _ _ (.mt [0] ?_) ?_ ?_
      · (cbv; repeat (refine ⟨rfl, ?_⟩; cbv))
      · simp only [iAt, geti, x_add]
        rw [wr64 (by (first | omega | ((try simp only [nc] at *); (try simp only [Int.ofNat_eq_natCast] at *); omega))) (by (first | omega | ((try simp only [nc] at *); (try simp only [Int.ofNat_eq_natCast] at *); omega)))]
        exact ⟨by (first | omega | ((try simp only [nc] at *); (try simp only [Int.ofNat_eq_natCast] at *); omega)), by (first | omega | ((try simp only [nc] at *); (try simp only [Int.ofNat_eq_natCast] at *); omega))⟩
      · simp only [iAt, geti, x_add]
        rw [wr64 (by (first | omega | ((try simp only [nc] at *); (try simp only [Int.ofNat_eq_natCast] at *); omega))) (by (first | omega | ((try simp only [nc] at *); (try simp only [Int.ofNat_eq_natCast] at *); omega)))]
        (first | omega | ((try simp only [nc] at *); (try simp only [Int.ofNat_eq_natCast] at *); omega))
    · cbv
      exact hK _ _ rfl
end Go.SX.Runs
