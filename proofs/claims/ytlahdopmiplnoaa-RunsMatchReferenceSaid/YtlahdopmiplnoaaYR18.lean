/-
  Runs: the third law's walk.
-/
import Derived.Test.YtlahdopmiplnoaaYR17
set_option linter.unusedSimpArgs false
set_option linter.unusedVariables false
set_option linter.unusedSectionVars false
namespace Go.SX.Runs
open Go Go.Proofs
/-- In which run an index stands: 0: in none. -/
def noTo (rs : List (List Int)) : Nat → Int → Int
  | 0, _ => 0
  | i + 1, n => match rs[i]? with
    | some r => if n ∈ r then (i : Int) + 1 else noTo rs i n
    | none => noTo rs i n
structure FreeOk (l : List Place) (t : List Bool) (rs : List (List Int)) : Prop where
  inb : ∀ r ∈ rs, ∀ n ∈ r, 0 ≤ n ∧ n < l.length
  nxt : ∀ r ∈ rs, ∀ (k : Nat) a b p q, r[k]? = some a → r[k + 1]? = some b → l[a.toNat]? = some p → l[b.toNat]? = some q → nextP p q = true
  new : ∀ (i : Nat) r (k : Nat) n, rs[i]? = some r → r[k]? = some n → n ∉ r.take k ∧ noTo rs i n = 0
  mem : ∀ (n : Nat) p, l[n]? = some p → (decide (0 ≤ p.row) && !takenL t n) = decide (0 < noTo rs rs.length n)
  same : ∀ (n m : Nat) p q, l[n]? = some p → l[m]? = some q → 0 < noTo rs rs.length n → 0 < noTo rs rs.length m → nextP p q = true → noTo rs rs.length m = noTo rs rs.length n
def arrE (n : Nat) (f : Int → Int) : List Int := (List.range n).map fun (j : Nat) => f (j : Int)
theorem arrE_len (n : Nat) (f : Int → Int) : (arrE n f).length = n := by simp [arrE]
theorem arrE_get {n : Nat} {f : Int → Int} {j : Nat} (h : j < n) : (arrE n f)[j]? = some (f (j : Int)) := by
  rw [arrE, List.getElem?_map, List.getElem?_range h]; rfl
theorem arrE_set {n : Nat} {f g : Int → Int} {x v : Int} (h0 : 0 ≤ x) (hx : g x = v) (hg : ∀ y, y ≠ x → g y = f y) : (arrE n f).set x.toNat v = arrE n g := by
  apply List.ext_getElem?
  intro j
  rw [List.getElem?_set, arrE_len]
  by_cases hj : j < n
  · rw [arrE_get hj, arrE_get hj]
    split
    · rename_i e
      subst e
      rw [if_pos hj]
      have : ((x.toNat : Nat) : Int) = x := by omega
      rw [this, hx]
    · rename_i e
      rw [hg (j : Int) (by omega)]
  · have h1 : (arrE n f)[j]? = none := List.getElem?_eq_none (by rw [arrE_len]; omega)
    have h2 : (arrE n g)[j]? = none := List.getElem?_eq_none (by rw [arrE_len]; omega)
    rw [h1, h2]
    split
    · rw [if_neg (by omega)]
    · rfl
theorem arrE_zero (n : Nat) : (arrE n fun _ => 0).map dI = List.replicate n (dI 0) := by
  apply List.ext_getElem?
  intro j
  rw [List.getElem?_map]
  by_cases hj : j < n
  · rw [arrE_get hj]; simp [hj]
  · rw [List.getElem?_eq_none (by rw [arrE_len]; omega)]; simp; omega
theorem noTo_le (rs : List (List Int)) (n : Int) : ∀ i, 0 ≤ noTo rs i n ∧ noTo rs i n ≤ i
  | 0 => ⟨Int.le_refl _, Int.le_refl _⟩
  | i + 1 => by
    have := noTo_le rs n i
    simp only [noTo]
    split
    · split <;> omega
    · omega
theorem noTo_succ {rs : List (List Int)} {i : Nat} {r : List Int} (h : rs[i]? = some r) (n : Int) : noTo rs (i + 1) n = if n ∈ r then (i : Int) + 1 else noTo rs i n := by
  simp only [noTo, h]
variable {P : Program} (hP : P = Try.prog)
include hP
set_option maxHeartbeats 4000000 in
theorem law5 {l : List Place} {el : List (List D)} {t : List Bool} {et : List (List D)} (hel : el = l.map Place.ds) (het : et = t.map dB) (hok : l.length ≤ 60 → orderedP l = true → FreeOk l t (freeI l t)) (hrows : freeI l (List.replicate t.length false) = freeI l []) :
    Fn1 P 5 [.d (.sl el), .d (.sl et)] (.b true) := by
  refine .walk (hP ▸ d5_ok) fun K hK => ?_
  have la : (el.length : Int) = l.length := by simp [hel]
  have lt : (et.length : Int) = t.length := by simp [het]
  cbv
  refine .f1z (headR hP) rfl rfl ?_
  cbv
  refine .f1z (fewR hP (c := []) hel het rfl) rfl rfl ?_
  generalize hf : (decide (l.length ≤ 60) && _) = f
  cbv
  refine brk (fun h => ?_) (fun h => ?_)
  · cbv; exact hK _ _ rfl
  simp only [x_not, Bool.not_eq_false'] at h
  subst h
  have hl60 : l.length ≤ 60 ∧ t.length ≤ 60 := by simpa using hf
  obtain ⟨hl60, ht60⟩ := hl60
  clear hf
  cbv
  refine .f1z (orderedR hP hel (by omega)) rfl rfl ?_
  generalize ho : orderedP l = o
  cbv
  refine brk (fun h => ?_) (fun h => ?_)
  · cbv; exact hK _ _ rfl
  simp only [x_not, Bool.not_eq_false'] at h
  subst h
  have hR := hok hl60 ho
  clear hok
  have hrl := freeI_len l t
  have hrm2 : ∀ r ∈ freeI l t, r.length ≤ l.length := fun r hr => freeI_mem hr
  cbv
  refine .f1z (freeR hP hel het (by omega)) rfl rfl ?_
  generalize freeI l t = rs at hR hrl hrm2
  obtain ⟨er, her⟩ : ∃ er, er = rs.map dL := ⟨_, rfl⟩
  rw [← her]
  have lr : (er.length : Int) = rs.length := by simp [her]
  cbv
  refine .of (m := l.length) (by simp only [x_len, la]) (by omega) (by decide) ?_
  cbv
  refine .intro (ι := Int × List (List D)) (fun q => [.d (.sl el), .d (.sl et), .top, .top, .top, .b true, .d (.sl er), .hd 0, .i q.1] ++ List.replicate 159 .top) (fun q => [.row 3 1 q.2]) (fun env own => (iAt env 8, rAt own 0))
    (fun q => 0 ≤ q.1 ∧ q.1 ≤ rs.length ∧ q.2 = (arrE l.length (noTo rs q.1.toNat)).map dI) (fun q => rs.length - q.1.toNat) (0, (Classical.choice ioEx).1.rep ((Classical.choice ioEx).1.len el) [.val (.int .i64 0)]) ?_ (.mt [0] ?_) fun q hq Kn hKn => ?_
  · refine ⟨Int.le_refl _, Int.natCast_nonneg _, ?_⟩
    simp only [x_rep, x_len, la]
    rw [show (Int.toNat (l.length : Int)) = l.length by omega]
    exact (arrE_zero _).symm
  · (cbv; repeat (refine ⟨rfl, ?_⟩; cbv))
  obtain ⟨i, eo⟩ := q
  obtain ⟨hi0, hi1, heo⟩ := hq
  dsimp only at hi0 hi1 heo
  cbv
  refine brk (fun h => ?_) (fun h => ?_)
  · simp only [x_lt, x_len, lr, decide_eq_true_eq] at h
    cbv
    refine .intro (ι := Int × List (List D)) (fun q => [.d (.sl el), .d (.sl et), .top, .top, .top, .b true, .d (.sl er), .hd 0, .i i, .i q.1] ++ List.replicate 158 .top) (fun q => [.row 3 1 q.2]) (fun env own => (iAt env 9, rAt own 0))
      (fun q => ∃ r, rs[i.toNat]? = some r ∧ 0 ≤ q.1 ∧ q.1 ≤ r.length ∧ q.2 = (arrE l.length (fun n => if n ∈ r.take q.1.toNat then i + 1 else noTo rs i.toNat n)).map dI) (fun q => 1000 - q.1.toNat) (0, eo) ?_ (.mt [0] ?_) fun q hq Kn2 hKn2 => ?_
    · obtain ⟨r, hr⟩ : ∃ r, rs[i.toNat]? = some r := ⟨_, List.getElem?_eq_getElem (by (first | omega | ((try simp only [nc] at *); (try simp only [Int.ofNat_eq_natCast] at *); omega)))⟩
      refine ⟨r, hr, Int.le_refl _, Int.natCast_nonneg _, ?_⟩
      rw [heo]; simp
    · (cbv; repeat (refine ⟨rfl, ?_⟩; cbv))
    obtain ⟨k, eo2⟩ := q
    obtain ⟨r, hr, hk0, hk1, heo2⟩ := hq
    dsimp only at hk0 hk1 heo2
    have hrm := List.mem_of_getElem? hr
    have hrl2 := hrm2 r hrm
    have hinb := hR.inb r hrm
    have hnxt := hR.nxt r hrm
    have leo2 : eo2.length = l.length := by rw [heo2, List.length_map, arrE_len]
    cbv
    refine .lists her hi0 (by (first | omega | ((try simp only [nc] at *); (try simp only [Int.ofNat_eq_natCast] at *); omega))) fun r' y2 hr' hy2 => ?_
    rw [hr] at hr'; cases hr'
    have ly2 : (y2.length : Int) = r.length := by simp [hy2]
    cbv
    refine brk (fun h1 => ?_) (fun h1 => ?_)
    · simp only [x_lt, x_len, ly2, decide_eq_true_eq] at h1
      cbv
      refine .lists her hi0 (by (first | omega | ((try simp only [nc] at *); (try simp only [Int.ofNat_eq_natCast] at *); omega))) fun r' y3 hr' hy3 => ?_
      rw [hr] at hr'; cases hr'
      cbv
      refine .map hy3 hk0 (by (first | omega | ((try simp only [nc] at *); (try simp only [Int.ofNat_eq_natCast] at *); omega))) (fun _ => rfl) fun n hn => ?_
      obtain ⟨n0, n1⟩ := hinb n (List.mem_of_getElem? hn)
      obtain ⟨w1, w2⟩ := hR.new i.toNat r k.toNat n hr hn
      have fin : ∀ env' own', StLe 0 env' own' ([.d (.sl el), .d (.sl et), .top, .top, .top, .b true, .d (.sl er), .hd 0, .i i, .i (iAt env' 9)] ++ List.replicate 158 .top) [.row 3 1 (rAt own' 0)] →
          iAt env' 9 = IntKind.i64.wrap (k + 1) → rAt own' 0 = eo2.set n.toNat (dI (IntKind.i64.wrap (i + 1))) → Kn2 env' own' := fun env' own' hst hi' ho' => by
        have e1 : IntKind.i64.wrap (k + 1) = k + 1 := wr64 (by (first | omega | ((try simp only [nc] at *); (try simp only [Int.ofNat_eq_natCast] at *); omega))) (by (first | omega | ((try simp only [nc] at *); (try simp only [Int.ofNat_eq_natCast] at *); omega)))
        have e2 : IntKind.i64.wrap (i + 1) = i + 1 := wr64 (by (first | omega | ((try simp only [nc] at *); (try simp only [Int.ofNat_eq_natCast] at *); omega))) (by (first | omega | ((try simp only [nc] at *); (try simp only [Int.ofNat_eq_natCast] at *); omega)))
        refine hKn2 _ _ hst ?_ ?_
        · rw [hi', ho', e1, e2]
          refine ⟨r, hr, by dsimp only; (first | omega | ((try simp only [nc] at *); (try simp only [Int.ofNat_eq_natCast] at *); omega)), by dsimp only; (first | omega | ((try simp only [nc] at *); (try simp only [Int.ofNat_eq_natCast] at *); omega)), ?_⟩
          dsimp only
          rw [show (k + 1).toNat = k.toNat + 1 by (first | omega | ((try simp only [nc] at *); (try simp only [Int.ofNat_eq_natCast] at *); omega)), heo2, ← List.map_set, take_succ_eq hn, arrE_set n0 (g := fun m => if m ∈ r.take k.toNat ++ [n] then i + 1 else noTo rs i.toNat m) (by simp) (fun y hy => by simp [hy])]
        · rw [hi', e1]; dsimp only; (first | omega | ((try simp only [nc] at *); (try simp only [Int.ofNat_eq_natCast] at *); omega))
      have hnn : n < (eo2.length : Int) := by rw [leo2]; exact n1
      cbv
      refine brk (fun h2 => ?_) (fun h2 => ?_)
      · cbv; simp only [x_lt, decide_eq_true_eq] at h2; exfalso; (first | omega | ((try simp only [nc] at *); (try simp only [Int.ofNat_eq_natCast] at *); omega))
      clear h2
      cbv
      refine brk (fun h2 => ?_) (fun h2 => ?_)
      · cbv; simp only [x_le, x_len, la, decide_eq_true_eq] at h2; exfalso; (first | omega | ((try simp only [nc] at *); (try simp only [Int.ofNat_eq_natCast] at *); omega))
      clear h2
      cbv
      refine ⟨n0, hnn, ?_⟩
      cbv
      refine .map heo2 (by simp only [x_nat]; rw [arrE_len]; (first | omega | ((try simp only [nc] at *); (try simp only [Int.ofNat_eq_natCast] at *); omega))) fun v hv => ?_
      simp only [x_nat] at hv
      rw [arrE_get (by (first | omega | ((try simp only [nc] at *); (try simp only [Int.ofNat_eq_natCast] at *); omega)))] at hv
      simp only [Int.toNat_of_nonneg n0, w1, if_false, w2] at hv
      have hv : v = 0 := by simpa using hv.symm
      subst hv
      cbv
      refine brk (fun h2 => ?_) (fun h2 => ?_)
      · cbv; simp only [x_eq, x_not, decide_true, Bool.not_true, Bool.false_eq_true] at h2
      clear h2
      cbv
      refine brk (fun h2 => ?_) (fun h2 => ?_)
      · simp only [x_lt, decide_eq_true_eq] at h2
        have ew : IntKind.i64.wrap (k - 1) = k - 1 := wr64 (by (first | omega | ((try simp only [nc] at *); (try simp only [Int.ofNat_eq_natCast] at *); omega))) (by (first | omega | ((try simp only [nc] at *); (try simp only [Int.ofNat_eq_natCast] at *); omega)))
        have em : max (k - 1) 0 = k - 1 := by (first | omega | ((try simp only [nc] at *); (try simp only [Int.ofNat_eq_natCast] at *); omega))
        cbv
        refine .lists her hi0 (by (first | omega | ((try simp only [nc] at *); (try simp only [Int.ofNat_eq_natCast] at *); omega))) fun r' y4 hr' hy4 => ?_
        rw [hr] at hr'; cases hr'
        cbv
        refine .map hy4 (by simp only [x_subi, x_max]; rw [ew, em]; (first | omega | ((try simp only [nc] at *); (try simp only [Int.ofNat_eq_natCast] at *); omega))) (by simp only [x_subi, x_max]; rw [ew, em]; (first | omega | ((try simp only [nc] at *); (try simp only [Int.ofNat_eq_natCast] at *); omega))) (fun _ => rfl) fun a ha => ?_
        simp only [x_subi, x_max] at ha
        rw [ew, em] at ha
        obtain ⟨a0, a1⟩ := hinb a (List.mem_of_getElem? ha)
        cbv
        refine .map hel a0 a1 (fun _ => rfl) fun p hp => ?_
        cbv
        refine .map hel n0 n1 (fun _ => rfl) fun q hq => ?_
        have hnx : nextP p q = true := hnxt (k - 1).toNat a n p q ha (by rw [show (k - 1).toNat + 1 = k.toNat by (first | omega | ((try simp only [nc] at *); (try simp only [Int.ofNat_eq_natCast] at *); omega))]; exact hn) hp hq
        obtain ⟨kind, level, block, row, seat, px, py, view, wit⟩ := p
        obtain ⟨kind', level', block', row', seat', px', py', view', wit'⟩ := q
        cbv
        refine .f1 (nextR hP ⟨kind, level, block, row, seat, px, py, view, wit⟩ ⟨kind', level', block', row', seat', px', py', view', wit'⟩) rfl rfl ?_
        rw [hnx]
        cbv
        refine brk (fun h3 => ?_) (fun h3 => ?_)
        · cbv; simp [x_not] at h3
        clear h3
        cbv
        refine ⟨n0, hnn, ?_⟩
        cbv
        refine .map heo2 (by simp only [x_nat]; rw [arrE_len]; (first | omega | ((try simp only [nc] at *); (try simp only [Int.ofNat_eq_natCast] at *); omega))) fun v' hv' => ?_
        cbv
        refine fin _ _ (.mt [0] ?_) ?_ ?_
        · (cbv; repeat (refine ⟨rfl, ?_⟩; cbv))
        · simp only [iAt, geti, x_add]
        · simp only [rAt, getr, x_add, x_set, x_nat]; rfl
      · cbv
        refine ⟨n0, hnn, ?_⟩
        cbv
        refine .map heo2 (by simp only [x_nat]; rw [arrE_len]; (first | omega | ((try simp only [nc] at *); (try simp only [Int.ofNat_eq_natCast] at *); omega))) fun v' hv' => ?_
        cbv
        refine fin _ _ (.mt [0] ?_) ?_ ?_
        · (cbv; repeat (refine ⟨rfl, ?_⟩; cbv))
        · simp only [iAt, geti, x_add]
        · simp only [rAt, getr, x_add, x_set, x_nat]; rfl
    · simp only [x_lt, x_len, ly2, decide_eq_false_iff_not] at h1
      have hke : r.take k.toNat = r := List.take_of_length_le (by (first | omega | ((try simp only [nc] at *); (try simp only [Int.ofNat_eq_natCast] at *); omega)))
      rw [hke] at heo2
      clear hKn2
      cbv
      refine hKn _ _ (.mt [0] ?_) ?_ ?_
      · (cbv; repeat (refine ⟨rfl, ?_⟩; cbv))
      · simp only [iAt, geti, rAt, getr, x_add]
        rw [wr64 (by (first | omega | ((try simp only [nc] at *); (try simp only [Int.ofNat_eq_natCast] at *); omega))) (by (first | omega | ((try simp only [nc] at *); (try simp only [Int.ofNat_eq_natCast] at *); omega)))]
        refine ⟨by (first | omega | ((try simp only [nc] at *); (try simp only [Int.ofNat_eq_natCast] at *); omega)), by (first | omega | ((try simp only [nc] at *); (try simp only [Int.ofNat_eq_natCast] at *); omega)), ?_⟩
        rw [show (i + 1).toNat = i.toNat + 1 by (first | omega | ((try simp only [nc] at *); (try simp only [Int.ofNat_eq_natCast] at *); omega)), heo2]
        congr 2
        funext n
        rw [noTo_succ hr, Int.toNat_of_nonneg hi0]
      · simp only [iAt, geti, x_add]
        rw [wr64 (by (first | omega | ((try simp only [nc] at *); (try simp only [Int.ofNat_eq_natCast] at *); omega))) (by (first | omega | ((try simp only [nc] at *); (try simp only [Int.ofNat_eq_natCast] at *); omega)))]
        (first | omega | ((try simp only [nc] at *); (try simp only [Int.ofNat_eq_natCast] at *); omega))
  · simp only [x_lt, x_len, lr, decide_eq_false_iff_not] at h
    have hie : i.toNat = rs.length := by (first | omega | ((try simp only [nc] at *); (try simp only [Int.ofNat_eq_natCast] at *); omega))
    rw [hie] at heo
    have leo : eo.length = l.length := by rw [heo, List.length_map, arrE_len]
    have hmem := hR.mem
    have hsame := hR.same
    clear hKn hR
    cbv
    refine .intro (ι := Int) (fun j => [.d (.sl el), .d (.sl et), .top, .top, .top, .b true, .top, .hd 0, .top, .top, .top, .i j] ++ List.replicate 156 .top) (fun _ => [.row 3 1 eo]) (fun env _ => iAt env 11)
      (fun j => 0 ≤ j ∧ j ≤ l.length) (fun j => l.length - j.toNat) 0 ?_ (.mt [0] ?_) fun j hj Kn3 hKn3 => ?_
    · exact ⟨Int.le_refl _, Int.natCast_nonneg _⟩
    · (cbv; repeat (refine ⟨rfl, ?_⟩; cbv))
    obtain ⟨hj0, hj1⟩ := hj
    cbv
    refine brk (fun h2 => ?_) (fun h2 => ?_)
    · simp only [x_lt, x_len, la, decide_eq_true_eq] at h2
      have hjn : j < (eo.length : Int) := by rw [leo]; exact h2
      cbv
      refine .map hel hj0 h2 (fun _ => rfl) fun p hp => ?_
      have c1 := hmem j.toNat p hp
      have hs := fun m q => hsame j.toNat m p q hp
      simp only [Int.toNat_of_nonneg hj0] at c1 hs
      have hno := (noTo_le rs j rs.length).1
      have hpn := fun q => nextR hP p q
      obtain ⟨kind, level, block, row, seat, px, py, view, wit⟩ := p
      dsimp only at c1
      cbv
      refine .f1 (seatR hP ⟨kind, level, block, row, seat, px, py, view, wit⟩) rfl rfl ?_
      dsimp only
      generalize hst : decide (0 ≤ row) = st at c1
      cbv
      refine brk (fun h3 => ?_) (fun h3 => ?_)
      · subst h3
        cbv
        refine .f1 (takenR hP j het) rfl rfl ?_
        generalize htk : takenL t j = tk at c1
        rw [Bool.true_and] at c1
        cbv
        refine ⟨hj0, hjn, ?_⟩
        cbv
        refine .map heo (by simp only [x_nat]; rw [arrE_len]; (first | omega | ((try simp only [nc] at *); (try simp only [Int.ofNat_eq_natCast] at *); omega))) fun v hv => ?_
        simp only [x_nat] at hv
        rw [arrE_get (by (first | omega | ((try simp only [nc] at *); (try simp only [Int.ofNat_eq_natCast] at *); omega)))] at hv
        simp only [Int.toNat_of_nonneg hj0] at hv
        have hv : v = noTo rs rs.length j := by simpa using hv.symm
        rw [← hv] at c1 hs hno
        cbv
        refine brk (fun h4 => ?_) (fun h4 => ?_)
        · cbv
          simp only [x_bne, x_lt, x_not, c1] at h4
          simp at h4
        clear h4
        cbv
        refine .intro (ι := Int) (fun m => [.d (.sl el), .d (.sl et), .top, .top, .top, .b true, .top, .hd 0, .top, .top, .top, .i j, .b ((Classical.choice ioEx).1.not tk), .i m] ++ List.replicate 154 .top) (fun _ => [.row 3 1 eo]) (fun env _ => iAt env 13)
          (fun m => 0 ≤ m ∧ m ≤ l.length) (fun m => l.length - m.toNat) 0 ?_ (.mt [0] ?_) fun m hm Kn4 hKn4 => ?_
        · exact ⟨Int.le_refl _, Int.natCast_nonneg _⟩
        · (cbv; repeat (refine ⟨rfl, ?_⟩; cbv))
        obtain ⟨hm0, hm1⟩ := hm
        cbv
        refine brk (fun h5 => ?_) (fun h5 => ?_)
        · simp only [x_lt, x_len, la, decide_eq_true_eq] at h5
          have hmn : m < (eo.length : Int) := by rw [leo]; exact h5
          cbv
          refine brk (fun h6 => ?_) (fun h6 => ?_)
          · simp only [x_not, c1, decide_eq_true_eq] at h6
            cbv
            refine ⟨hm0, hmn, ?_⟩
            cbv
            refine .map heo (by simp only [x_nat]; rw [arrE_len]; (first | omega | ((try simp only [nc] at *); (try simp only [Int.ofNat_eq_natCast] at *); omega))) fun u hu => ?_
            simp only [x_nat] at hu
            rw [arrE_get (by (first | omega | ((try simp only [nc] at *); (try simp only [Int.ofNat_eq_natCast] at *); omega)))] at hu
            simp only [Int.toNat_of_nonneg hm0] at hu
            have hu : u = noTo rs rs.length m := by simpa using hu.symm
            cbv
            refine brk (fun h7 => ?_) (fun h7 => ?_)
            · simp only [x_lt, decide_eq_true_eq] at h7
              cbv
              refine .map hel hj0 h2 (fun _ => rfl) fun p' hp' => ?_
              rw [hp] at hp'; cases hp'
              cbv
              refine .map hel hm0 h5 (fun _ => rfl) fun q hq => ?_
              have hs2 := hs m.toNat q hq h6
              simp only [Int.toNat_of_nonneg hm0] at hs2
              rw [← hu] at hs2
              obtain ⟨kind', level', block', row', seat', px', py', view', wit'⟩ := q
              cbv
              refine .f1 (nextR hP ⟨kind, level, block, row, seat, px, py, view, wit⟩ ⟨kind', level', block', row', seat', px', py', view', wit'⟩) rfl rfl ?_
              generalize nextP ⟨kind, level, block, row, seat, px, py, view, wit⟩ ⟨kind', level', block', row', seat', px', py', view', wit'⟩ = nx at hs2
              cbv
              refine brk (fun h8 => ?_) (fun h8 => ?_)
              · subst h8
                have hsm := hs2 h7 rfl
                cbv
                refine ⟨hm0, hmn, ?_⟩
                cbv
                refine .map heo (by simp only [x_nat]; rw [arrE_len]; (first | omega | ((try simp only [nc] at *); (try simp only [Int.ofNat_eq_natCast] at *); omega))) fun u' hu' => ?_
                simp only [x_nat] at hu'
                rw [arrE_get (by (first | omega | ((try simp only [nc] at *); (try simp only [Int.ofNat_eq_natCast] at *); omega)))] at hu'
                simp only [Int.toNat_of_nonneg hm0] at hu'
                have hu' : u' = u := by rw [hu]; simpa using hu'.symm
                cbv
                refine ⟨hj0, hjn, ?_⟩
                cbv
                refine .map heo (by simp only [x_nat]; rw [arrE_len]; (first | omega | ((try simp only [nc] at *); (try simp only [Int.ofNat_eq_natCast] at *); omega))) fun v' hv' => ?_
                simp only [x_nat] at hv'
                rw [arrE_get (by (first | omega | ((try simp only [nc] at *); (try simp only [Int.ofNat_eq_natCast] at *); omega)))] at hv'
                simp only [Int.toNat_of_nonneg hj0] at hv'
                have hv' : v' = v := by rw [hv]; simpa using hv'.symm
                cbv
                refine brk (fun h9 => ?_) (fun h9 => ?_)
                · cbv
                  simp only [x_eq, x_not, hu', hv', hsm, decide_true, Bool.not_true, Bool.false_eq_true] at h9
                cbv
                refine hKn4 _ _ (.mt [0] ?_) ?_ ?_
                · (cbv; repeat (refine ⟨rfl, ?_⟩; cbv))
                · simp only [iAt, geti, x_add]
                  rw [wr64 (by (first | omega | ((try simp only [nc] at *); (try simp only [Int.ofNat_eq_natCast] at *); omega))) (by (first | omega | ((try simp only [nc] at *); (try simp only [Int.ofNat_eq_natCast] at *); omega)))]
                  exact ⟨by (first | omega | ((try simp only [nc] at *); (try simp only [Int.ofNat_eq_natCast] at *); omega)), by (first | omega | ((try simp only [nc] at *); (try simp only [Int.ofNat_eq_natCast] at *); omega))⟩
                · simp only [iAt, geti, x_add]
                  rw [wr64 (by (first | omega | ((try simp only [nc] at *); (try simp only [Int.ofNat_eq_natCast] at *); omega))) (by (first | omega | ((try simp only [nc] at *); (try simp only [Int.ofNat_eq_natCast] at *); omega)))]
                  (first | omega | ((try simp only [nc] at *); (try simp only [Int.ofNat_eq_natCast] at *); omega))
              · cbv
                refine hKn4 _ _ (.mt [0] ?_) ?_ ?_
                · (cbv; repeat (refine ⟨rfl, ?_⟩; cbv))
                · simp only [iAt, geti, x_add]
                  rw [wr64 (by (first | omega | ((try simp only [nc] at *); (try simp only [Int.ofNat_eq_natCast] at *); omega))) (by (first | omega | ((try simp only [nc] at *); (try simp only [Int.ofNat_eq_natCast] at *); omega)))]
                  exact ⟨by (first | omega | ((try simp only [nc] at *); (try simp only [Int.ofNat_eq_natCast] at *); omega)), by (first | omega | ((try simp only [nc] at *); (try simp only [Int.ofNat_eq_natCast] at *); omega))⟩
                · simp only [iAt, geti, x_add]
                  rw [wr64 (by (first | omega | ((try simp only [nc] at *); (try simp only [Int.ofNat_eq_natCast] at *); omega))) (by (first | omega | ((try simp only [nc] at *); (try simp only [Int.ofNat_eq_natCast] at *); omega)))]
                  (first | omega | ((try simp only [nc] at *); (try simp only [Int.ofNat_eq_natCast] at *); omega))
            · cbv
              refine hKn4 _ _ (.mt [0] ?_) ?_ ?_
              · (cbv; repeat (refine ⟨rfl, ?_⟩; cbv))
              · simp only [iAt, geti, x_add]
                rw [wr64 (by (first | omega | ((try simp only [nc] at *); (try simp only [Int.ofNat_eq_natCast] at *); omega))) (by (first | omega | ((try simp only [nc] at *); (try simp only [Int.ofNat_eq_natCast] at *); omega)))]
                exact ⟨by (first | omega | ((try simp only [nc] at *); (try simp only [Int.ofNat_eq_natCast] at *); omega)), by (first | omega | ((try simp only [nc] at *); (try simp only [Int.ofNat_eq_natCast] at *); omega))⟩
              · simp only [iAt, geti, x_add]
                rw [wr64 (by (first | omega | ((try simp only [nc] at *); (try simp only [Int.ofNat_eq_natCast] at *); omega))) (by (first | omega | ((try simp only [nc] at *); (try simp only [Int.ofNat_eq_natCast] at *); omega)))]
                (first | omega | ((try simp only [nc] at *); (try simp only [Int.ofNat_eq_natCast] at *); omega))
          · cbv
            refine hKn3 _ _ (.mt [0] ?_) ?_ ?_
            · (cbv; repeat (refine ⟨rfl, ?_⟩; cbv))
            · simp only [iAt, geti, x_add]
              rw [wr64 (by (first | omega | ((try simp only [nc] at *); (try simp only [Int.ofNat_eq_natCast] at *); omega))) (by (first | omega | ((try simp only [nc] at *); (try simp only [Int.ofNat_eq_natCast] at *); omega)))]
              exact ⟨by (first | omega | ((try simp only [nc] at *); (try simp only [Int.ofNat_eq_natCast] at *); omega)), by (first | omega | ((try simp only [nc] at *); (try simp only [Int.ofNat_eq_natCast] at *); omega))⟩
            · simp only [iAt, geti, x_add]
              rw [wr64 (by (first | omega | ((try simp only [nc] at *); (try simp only [Int.ofNat_eq_natCast] at *); omega))) (by (first | omega | ((try simp only [nc] at *); (try simp only [Int.ofNat_eq_natCast] at *); omega)))]
              (first | omega | ((try simp only [nc] at *); (try simp only [Int.ofNat_eq_natCast] at *); omega))
        · cbv
          refine hKn3 _ _ (.mt [0] ?_) ?_ ?_
          · (cbv; repeat (refine ⟨rfl, ?_⟩; cbv))
          · simp only [iAt, geti, x_add]
            rw [wr64 (by (first | omega | ((try simp only [nc] at *); (try simp only [Int.ofNat_eq_natCast] at *); omega))) (by (first | omega | ((try simp only [nc] at *); (try simp only [Int.ofNat_eq_natCast] at *); omega)))]
            exact ⟨by (first | omega | ((try simp only [nc] at *); (try simp only [Int.ofNat_eq_natCast] at *); omega)), by (first | omega | ((try simp only [nc] at *); (try simp only [Int.ofNat_eq_natCast] at *); omega))⟩
          · simp only [iAt, geti, x_add]
            rw [wr64 (by (first | omega | ((try simp only [nc] at *); (try simp only [Int.ofNat_eq_natCast] at *); omega))) (by (first | omega | ((try simp only [nc] at *); (try simp only [Int.ofNat_eq_natCast] at *); omega)))]
            (first | omega | ((try simp only [nc] at *); (try simp only [Int.ofNat_eq_natCast] at *); omega))
      · subst h3
        rw [Bool.false_and] at c1
        cbv
        refine ⟨hj0, hjn, ?_⟩
        cbv
        refine .map heo (by simp only [x_nat]; rw [arrE_len]; (first | omega | ((try simp only [nc] at *); (try simp only [Int.ofNat_eq_natCast] at *); omega))) fun v hv => ?_
        simp only [x_nat] at hv
        rw [arrE_get (by (first | omega | ((try simp only [nc] at *); (try simp only [Int.ofNat_eq_natCast] at *); omega)))] at hv
        simp only [Int.toNat_of_nonneg hj0] at hv
        have hv : v = noTo rs rs.length j := by simpa using hv.symm
        rw [← hv] at c1
        cbv
        refine brk (fun h4 => ?_) (fun h4 => ?_)
        · cbv
          simp only [x_bne, x_lt, ← c1] at h4
          simp at h4
        clear h4
        cbv
        refine .intro (ι := Int) (fun m => [.d (.sl el), .d (.sl et), .top, .top, .top, .b true, .top, .hd 0, .top, .top, .top, .i j, .b false, .i m] ++ List.replicate 154 .top) (fun _ => [.row 3 1 eo]) (fun env _ => iAt env 13)
          (fun m => True) (fun m => 0) 0 trivial (.mt [0] ?_) fun m hm Kn4 hKn4 => ?_
        · (cbv; repeat (refine ⟨rfl, ?_⟩; cbv))
        cbv
        refine brk (fun h5 => ?_) (fun h5 => ?_)
        · cbv
          refine hKn3 _ _ (.mt [0] ?_) ?_ ?_
          · (cbv; repeat (refine ⟨rfl, ?_⟩; cbv))
          · simp only [iAt, geti, x_add]
            rw [wr64 (by (first | omega | ((try simp only [nc] at *); (try simp only [Int.ofNat_eq_natCast] at *); omega))) (by (first | omega | ((try simp only [nc] at *); (try simp only [Int.ofNat_eq_natCast] at *); omega)))]
            exact ⟨by (first | omega | ((try simp only [nc] at *); (try simp only [Int.ofNat_eq_natCast] at *); omega)), by (first | omega | ((try simp only [nc] at *); (try simp only [Int.ofNat_eq_natCast] at *); omega))⟩
          · simp only [iAt, geti, x_add]
            rw [wr64 (by (first | omega | ((try simp only [nc] at *); (try simp only [Int.ofNat_eq_natCast] at *); omega))) (by (first | omega | ((try simp only [nc] at *); (try simp only [Int.ofNat_eq_natCast] at *); omega)))]
            (first | omega | ((try simp only [nc] at *); (try simp only [Int.ofNat_eq_natCast] at *); omega))
        · cbv
          refine hKn3 _ _ (.mt [0] ?_) ?_ ?_
          · (cbv; repeat (refine ⟨rfl, ?_⟩; cbv))
          · simp only [iAt, geti, x_add]
            rw [wr64 (by (first | omega | ((try simp only [nc] at *); (try simp only [Int.ofNat_eq_natCast] at *); omega))) (by (first | omega | ((try simp only [nc] at *); (try simp only [Int.ofNat_eq_natCast] at *); omega)))]
            exact ⟨by (first | omega | ((try simp only [nc] at *); (try simp only [Int.ofNat_eq_natCast] at *); omega)), by (first | omega | ((try simp only [nc] at *); (try simp only [Int.ofNat_eq_natCast] at *); omega))⟩
          · simp only [iAt, geti, x_add]
            rw [wr64 (by (first | omega | ((try simp only [nc] at *); (try simp only [Int.ofNat_eq_natCast] at *); omega))) (by (first | omega | ((try simp only [nc] at *); (try simp only [Int.ofNat_eq_natCast] at *); omega)))]
            (first | omega | ((try simp only [nc] at *); (try simp only [Int.ofNat_eq_natCast] at *); omega))
    · cbv
      refine .of (m := t.length) (by simp only [x_len, lt]) (by omega) (by decide) ?_
      have hef : (Classical.choice ioEx).1.rep ((Classical.choice ioEx).1.len et) [.val (.bool false)] = (List.replicate t.length false).map dB := by
        simp only [x_rep, x_len, lt, List.map_replicate]; rfl
      have hfl := freeI_len l []
      have hfm : ∀ r ∈ freeI l [], r.length ≤ l.length := fun r hr => freeI_mem hr
      cbv
      refine .f1z (freeR hP (t := List.replicate t.length false) hel hef (by (first | omega | ((try simp only [nc] at *); (try simp only [Int.ofNat_eq_natCast] at *); omega)))) rfl rfl ?_
      rw [hrows]
      have hrw := rowsR hP hel (by omega)
      generalize freeI l [] = fs at hfl hfm hrw
      obtain ⟨ef, hef3⟩ : ∃ ef, ef = fs.map dL := ⟨_, rfl⟩
      rw [← hef3] at hrw ⊢
      cbv
      refine .f1z hrw rfl rfl ?_
      cbv
      refine .f1z (listsR hP hef3 hef3 (by (first | omega | ((try simp only [nc] at *); (try simp only [Int.ofNat_eq_natCast] at *); omega))) (fun x hx => by have := hfm x hx; (first | omega | ((try simp only [nc] at *); (try simp only [Int.ofNat_eq_natCast] at *); omega)))) rfl rfl ?_
      rw [decide_eq_true rfl]
      cbv
      exact hK _ _ rfl
end Go.SX.Runs
