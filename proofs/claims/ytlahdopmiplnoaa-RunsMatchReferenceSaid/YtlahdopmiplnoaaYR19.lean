/-
  Runs: the fifth law's walk.
-/
import Derived.Test.YtlahdopmiplnoaaYR18
set_option linter.unusedSimpArgs false
set_option linter.unusedVariables false
set_option linter.unusedSectionVars false
namespace Go.SX.Runs
open Go Go.Proofs
def sideB (p q : Place) : Bool := nextP p q || nextP q p
/-- Whether a free seat among the first ones is beside a place. -/
def besTo (l : List Place) (t : List Bool) (p : Place) : Nat → Bool
  | 0 => false
  | m + 1 => besTo l t p m || (match l[m]? with | some q => sideB p q && (decide (0 ≤ q.row) && !takenL t m) | none => false)
theorem besTo_succ {l : List Place} {t : List Bool} {p q : Place} {m : Nat} (h : l[m]? = some q) : besTo l t p (m + 1) = (besTo l t p m || (sideB p q && (decide (0 ≤ q.row) && !takenL t m))) := by
  simp only [besTo, h]
structure LeftOk (l : List Place) (t af : List Bool) (ls : List Int) : Prop where
  inb : ∀ n ∈ ls, 0 ≤ n ∧ n < l.length
  fre : ∀ n ∈ ls, af[n.toNat]? = some false
  asc : ∀ (i : Nat) a b, ls[i]? = some a → ls[i + 1]? = some b → a < b
  side : ∀ n ∈ ls, ∀ p (m : Nat) q, l[n.toNat]? = some p → l[m]? = some q → sideB p q = true → 0 ≤ q.row → af[m]? = some true
  bes : ∀ n ∈ ls, ∀ p, l[n.toNat]? = some p → besTo l t p l.length = true
variable {P : Program} (hP : P = Try.prog)
include hP
set_option maxHeartbeats 4000000 in
theorem law7 {l : List Place} {el : List (List D)} {t : List Bool} {et : List (List D)} {c : List Int} {ec : List (List D)} (hel : el = l.map Place.ds) (het : et = t.map dB) (hec : ec = c.map dI)
    (hok : l.length ≤ 60 → orderedP l = true → LeftOk l t (afterL l t c) (singlesL l t c)) : Fn1 P 7 [.d (.sl el), .d (.sl et), .d (.sl ec)] (.b true) := by
  refine .walk (hP ▸ d7_ok) fun K hK => ?_
  have la : (el.length : Int) = l.length := by simp [hel]
  cbv
  refine .f1z (headR hP) rfl rfl ?_
  cbv
  refine .f1z (fewR hP hel het hec) rfl rfl ?_
  generalize hf : (decide (l.length ≤ 60) && _) = f
  cbv
  refine brk (fun h => ?_) (fun h => ?_)
  · cbv; exact hK _ _ rfl
  simp only [x_not, Bool.not_eq_false'] at h
  subst h
  have hl60 : l.length ≤ 60 ∧ t.length ≤ 60 ∧ c.length ≤ 60 := by simpa using hf
  obtain ⟨hl60, _, hc60⟩ := hl60
  clear hf
  cbv
  refine .f1z (orderedR hP hel (by omega)) rfl rfl ?_
  generalize ho : orderedP l = o
  cbv
  refine brk (fun h => ?_) (fun h => ?_)
  · cbv; exact hK _ _ rfl
  simp only [x_not, Bool.not_eq_false'] at h
  subst h
  have hR := hok hl60 ho
  clear hok
  have hsl : (singlesL l t c).length ≤ 60 := Nat.le_trans (leftL_len _ _) (Nat.le_trans (freeI_len _ _) hl60)
  have haf := afterR hP hel het hec (by omega) (by omega)
  cbv
  refine .f1z (singlesR hP hel het hec (by omega) (by omega)) rfl rfl ?_
  generalize singlesL l t c = ls at hR hsl
  have lal : (afterL l t c).length = l.length := by simp [afterL]
  generalize afterL l t c = af at hR haf lal
  obtain ⟨es, hes⟩ : ∃ es, es = ls.map dI := ⟨_, rfl⟩
  obtain ⟨ea, hea⟩ : ∃ ea, ea = af.map dB := ⟨_, rfl⟩
  rw [← hes]
  rw [← hea] at haf
  have lls : (es.length : Int) = ls.length := by simp [hes]
  cbv
  refine .f1z haf rfl rfl ?_
  cbv
  refine .intro (ι := Int) (fun i => [.d (.sl el), .d (.sl et), .d (.sl ec), .top, .top, .top, .top, .b true, .d (.sl es), .d (.sl ea), .i i] ++ List.replicate 112 .top) (fun _ => []) (fun env _ => iAt env 10)
    (fun i => 0 ≤ i ∧ i ≤ ls.length) (fun i => ls.length - i.toNat) 0 ?_ (.mt [] ?_) fun i hi Kn hKn => ?_
  · exact ⟨Int.le_refl _, Int.natCast_nonneg _⟩
  · (cbv; repeat (refine ⟨rfl, ?_⟩; cbv))
  obtain ⟨hi0, hi1⟩ := hi
  cbv
  refine brk (fun h => ?_) (fun h => ?_)
  · simp only [x_lt, x_len, lls, decide_eq_true_eq] at h
    cbv
    refine .map hes hi0 (by (first | omega | ((try simp only [nc] at *); (try simp only [Int.ofNat_eq_natCast] at *); omega))) (fun _ => rfl) fun n hn => ?_
    have hnm := List.mem_of_getElem? hn
    obtain ⟨n0, n1⟩ := hR.inb n hnm
    have hfre := hR.fre n hnm
    have hside := hR.side n hnm
    have hbes := hR.bes n hnm
    have hasc := hR.asc (i - 1).toNat
    have hna : n < (af.length : Int) := by rw [lal]; exact n1
    cbv
    refine brk (fun h2 => ?_) (fun h2 => ?_)
    · cbv; simp only [x_lt, decide_eq_true_eq] at h2; exfalso; (first | omega | ((try simp only [nc] at *); (try simp only [Int.ofNat_eq_natCast] at *); omega))
    clear h2
    cbv
    refine brk (fun h2 => ?_) (fun h2 => ?_)
    · cbv; simp only [x_le, x_len, la, decide_eq_true_eq] at h2; exfalso; (first | omega | ((try simp only [nc] at *); (try simp only [Int.ofNat_eq_natCast] at *); omega))
    clear h2
    cbv
    refine .map hea n0 hna (fun _ => rfl) fun v hv => ?_
    rw [hfre] at hv; cases hv
    cbv
    refine brk (fun h2 => ?_) (fun h2 => ?_)
    · simp only [x_lt, decide_eq_true_eq] at h2
      have ew : IntKind.i64.wrap (i - 1) = i - 1 := wr64 (by (first | omega | ((try simp only [nc] at *); (try simp only [Int.ofNat_eq_natCast] at *); omega))) (by (first | omega | ((try simp only [nc] at *); (try simp only [Int.ofNat_eq_natCast] at *); omega)))
      have em : max (i - 1) 0 = i - 1 := by (first | omega | ((try simp only [nc] at *); (try simp only [Int.ofNat_eq_natCast] at *); omega))
      cbv
      refine .map hes (by simp only [x_subi, x_max]; rw [ew, em]; (first | omega | ((try simp only [nc] at *); (try simp only [Int.ofNat_eq_natCast] at *); omega))) (by simp only [x_subi, x_max]; rw [ew, em]; (first | omega | ((try simp only [nc] at *); (try simp only [Int.ofNat_eq_natCast] at *); omega))) (fun _ => rfl) fun a ha => ?_
      simp only [x_subi, x_max] at ha
      rw [ew, em] at ha
      have hlt := hasc a n ha (by rw [show (i - 1).toNat + 1 = i.toNat by (first | omega | ((try simp only [nc] at *); (try simp only [Int.ofNat_eq_natCast] at *); omega))]; exact hn)
      cbv
      refine brk (fun h3 => ?_) (fun h3 => ?_)
      · cbv; simp only [x_le, decide_eq_true_eq] at h3; exfalso; (first | omega | ((try simp only [nc] at *); (try simp only [Int.ofNat_eq_natCast] at *); omega))
      clear h3
      cbv
      refine .intro (ι := Bool × Int) (fun k => [.d (.sl el), .d (.sl et), .d (.sl ec), .top, .top, .top, .top, .b true, .d (.sl es), .d (.sl ea), .i i, .i n, .b k.1, .i k.2] ++ List.replicate 109 .top) (fun _ => []) (fun env _ => (bAt env 12, iAt env 13))
        (fun k => 0 ≤ k.2 ∧ k.2 ≤ l.length ∧ ∀ p, l[n.toNat]? = some p → k.1 = besTo l t p k.2.toNat) (fun k => l.length - k.2.toNat) (false, 0) ?_ (.mt [] ?_) fun k hk Kn2 hKn2 => ?_
      · exact ⟨Int.le_refl _, Int.natCast_nonneg _, fun p _ => rfl⟩
      · (cbv; repeat (refine ⟨rfl, ?_⟩; cbv))
      obtain ⟨b, m⟩ := k
      obtain ⟨hm0, hm1, hb⟩ := hk
      dsimp only at hm0 hm1 hb
      cbv
      refine brk (fun h4 => ?_) (fun h4 => ?_)
      · simp only [x_lt, x_len, la, decide_eq_true_eq] at h4
        have hma : m < (af.length : Int) := by rw [lal]; exact h4
        cbv
        refine .map hel n0 n1 (fun _ => rfl) fun p hp => ?_
        have hb := hb p hp
        cbv
        refine .map hel hm0 h4 (fun _ => rfl) fun q hq => ?_
        have hsd := hside p m.toNat q hp hq
        have hbs := besTo_succ (t := t) (p := p) hq
        rw [← hb] at hbs
        have hpq := nextR hP p q
        have hqp := nextR hP q p
        have hsq := seatR hP q
        have hsid : sideB p q = (nextP p q || nextP q p) := rfl
        have kn : ∀ env' own', StLe 0 env' own' ([.d (.sl el), .d (.sl et), .d (.sl ec), .top, .top, .top, .top, .b true, .d (.sl es), .d (.sl ea), .i i, .i n, .b (bAt env' 12), .i (iAt env' 13)] ++ List.replicate 109 .top) [] → iAt env' 13 = IntKind.i64.wrap (m + 1) → bAt env' 12 = (b || (sideB p q && (decide (0 ≤ q.row) && !takenL t m.toNat))) → Kn2 env' own' := fun env' own' hst hi' hb' => by
          have e1 : IntKind.i64.wrap (m + 1) = m + 1 := wr64 (by (first | omega | ((try simp only [nc] at *); (try simp only [Int.ofNat_eq_natCast] at *); omega))) (by (first | omega | ((try simp only [nc] at *); (try simp only [Int.ofNat_eq_natCast] at *); omega)))
          refine hKn2 _ _ hst ?_ ?_
          · rw [hi', hb', e1]
            refine ⟨by dsimp only; (first | omega | ((try simp only [nc] at *); (try simp only [Int.ofNat_eq_natCast] at *); omega)), by dsimp only; (first | omega | ((try simp only [nc] at *); (try simp only [Int.ofNat_eq_natCast] at *); omega)), fun p' hp' => ?_⟩
            rw [hp] at hp'; cases hp'
            dsimp only
            rw [show (m + 1).toNat = m.toNat + 1 by (first | omega | ((try simp only [nc] at *); (try simp only [Int.ofNat_eq_natCast] at *); omega)), hbs]
          · rw [hi', e1]; dsimp only; (first | omega | ((try simp only [nc] at *); (try simp only [Int.ofNat_eq_natCast] at *); omega))
        rw [Int.toNat_of_nonneg hm0] at kn
        generalize sideB p q = sd at hsd hsid kn
        generalize nextP p q = nx at hpq hsid
        generalize nextP q p = ny at hqp hsid
        clear hb hKn2 hside hbes hasc hbs
        generalize hst : decide (0 ≤ q.row) = st at hsq kn
        have hstr : st = true → 0 ≤ q.row := fun e => by rw [← hst] at e; exact of_decide_eq_true e
        obtain ⟨kind, level, block, row, seat, px, py, view, wit⟩ := p
        obtain ⟨kind', level', block', row', seat', px', py', view', wit'⟩ := q
        cbv
        refine .f1 hpq rfl rfl ?_
        cbv
        refine brk (fun h5 => ?_) (fun h5 => ?_)
        · simp only [x_not, Bool.not_eq_true'] at h5
          subst h5
          cbv
          refine .map hel hm0 h4 (fun _ => rfl) fun q' hq' => ?_
          rw [hq] at hq'; cases hq'
          cbv
          refine .map hel n0 n1 (fun _ => rfl) fun p' hp' => ?_
          rw [hp] at hp'; cases hp'
          cbv
          refine .f1 hqp rfl rfl ?_
          cbv
          refine brk (fun h5 => ?_) (fun h5 => ?_)
          · simp only [x_not, Bool.not_eq_true'] at h5
            subst h5
            cbv
            refine kn _ _ (.mt [] ?_) ?_ ?_
            · (cbv; repeat (refine ⟨rfl, ?_⟩; cbv))
            · simp only [iAt, geti, x_add]
            · simp only [bAt, geti, hsid]; simp
          · simp only [x_not, Bool.not_eq_false'] at h5
            subst h5
            have hsid : sd = true := by rw [hsid]; rfl
            cbv
            refine .map hel hm0 h4 (fun _ => rfl) fun q' hq' => ?_
            rw [hq] at hq'; cases hq'
            cbv
            refine .f1 hsq rfl rfl ?_
            cbv
            refine brk (fun h6 => ?_) (fun h6 => ?_)
            · simp only [x_not, Bool.not_eq_true'] at h6
              subst h6
              cbv
              refine kn _ _ (.mt [] ?_) ?_ ?_
              · (cbv; repeat (refine ⟨rfl, ?_⟩; cbv))
              · simp only [iAt, geti, x_add]
              · simp only [bAt, geti, hsid]; simp
            · simp only [x_not, Bool.not_eq_false'] at h6
              subst h6
              have haf2 := hsd hsid (hstr rfl)
              cbv
              refine .map hea hm0 hma (fun _ => rfl) fun u hu => ?_
              rw [haf2] at hu; cases hu
              cbv
              refine brk (fun h7 => ?_) (fun h7 => ?_)
              · cbv; simp [x_not] at h7
              clear h7
              cbv
              refine brk (fun h8 => ?_) (fun h8 => ?_)
              · subst h8
                cbv
                refine kn _ _ (.mt [] ?_) ?_ ?_
                · (cbv; repeat (refine ⟨rfl, ?_⟩; cbv))
                · simp only [iAt, geti, x_add]
                · simp only [bAt, geti]; simp
              · subst h8
                cbv
                refine .f1z (takenR hP m het) rfl rfl ?_
                generalize htk : takenL t m = tk at kn
                cbv
                refine kn _ _ (.mt [] ?_) ?_ ?_
                · (cbv; repeat (refine ⟨rfl, ?_⟩; cbv))
                · simp only [iAt, geti, x_add]
                · simp only [bAt, geti, hsid, x_not]; simp
        · simp only [x_not, Bool.not_eq_false'] at h5
          subst h5
          have hsid : sd = true := by rw [hsid]; rfl
          cbv
          refine .map hel hm0 h4 (fun _ => rfl) fun q' hq' => ?_
          rw [hq] at hq'; cases hq'
          cbv
          refine .f1 hsq rfl rfl ?_
          cbv
          refine brk (fun h6 => ?_) (fun h6 => ?_)
          · simp only [x_not, Bool.not_eq_true'] at h6
            subst h6
            cbv
            refine kn _ _ (.mt [] ?_) ?_ ?_
            · (cbv; repeat (refine ⟨rfl, ?_⟩; cbv))
            · simp only [iAt, geti, x_add]
            · simp only [bAt, geti, hsid]; simp
          · simp only [x_not, Bool.not_eq_false'] at h6
            subst h6
            have haf2 := hsd hsid (hstr rfl)
            cbv
            refine .map hea hm0 hma (fun _ => rfl) fun u hu => ?_
            rw [haf2] at hu; cases hu
            cbv
            refine brk (fun h7 => ?_) (fun h7 => ?_)
            · cbv; simp [x_not] at h7
            clear h7
            cbv
            refine brk (fun h8 => ?_) (fun h8 => ?_)
            · subst h8
              cbv
              refine kn _ _ (.mt [] ?_) ?_ ?_
              · (cbv; repeat (refine ⟨rfl, ?_⟩; cbv))
              · simp only [iAt, geti, x_add]
              · simp only [bAt, geti]; simp
            · subst h8
              cbv
              refine .f1z (takenR hP m het) rfl rfl ?_
              generalize htk : takenL t m = tk at kn
              cbv
              refine kn _ _ (.mt [] ?_) ?_ ?_
              · (cbv; repeat (refine ⟨rfl, ?_⟩; cbv))
              · simp only [iAt, geti, x_add]
              · simp only [bAt, geti, hsid, x_not]; simp
      · simp only [x_lt, x_len, la, decide_eq_false_iff_not] at h4
        obtain ⟨p, hp⟩ : ∃ p, l[n.toNat]? = some p := ⟨_, List.getElem?_eq_getElem (by (first | omega | ((try simp only [nc] at *); (try simp only [Int.ofNat_eq_natCast] at *); omega)))⟩
        have hb := hb p hp
        rw [show m.toNat = l.length by (first | omega | ((try simp only [nc] at *); (try simp only [Int.ofNat_eq_natCast] at *); omega)), hbes p hp] at hb
        subst hb
        clear hKn2
        cbv
        refine brk (fun h5 => ?_) (fun h5 => ?_)
        · cbv; simp [x_not] at h5
        clear h5
        cbv
        refine hKn _ _ (.mt [] ?_) ?_ ?_
        · (cbv; repeat (refine ⟨rfl, ?_⟩; cbv))
        · simp only [iAt, geti, x_add]
          rw [wr64 (by (first | omega | ((try simp only [nc] at *); (try simp only [Int.ofNat_eq_natCast] at *); omega))) (by (first | omega | ((try simp only [nc] at *); (try simp only [Int.ofNat_eq_natCast] at *); omega)))]
          exact ⟨by (first | omega | ((try simp only [nc] at *); (try simp only [Int.ofNat_eq_natCast] at *); omega)), by (first | omega | ((try simp only [nc] at *); (try simp only [Int.ofNat_eq_natCast] at *); omega))⟩
        · simp only [iAt, geti, x_add]
          rw [wr64 (by (first | omega | ((try simp only [nc] at *); (try simp only [Int.ofNat_eq_natCast] at *); omega))) (by (first | omega | ((try simp only [nc] at *); (try simp only [Int.ofNat_eq_natCast] at *); omega)))]
          (first | omega | ((try simp only [nc] at *); (try simp only [Int.ofNat_eq_natCast] at *); omega))
    · cbv
      refine .intro (ι := Bool × Int) (fun k => [.d (.sl el), .d (.sl et), .d (.sl ec), .top, .top, .top, .top, .b true, .d (.sl es), .d (.sl ea), .i i, .i n, .b k.1, .i k.2] ++ List.replicate 109 .top) (fun _ => []) (fun env _ => (bAt env 12, iAt env 13))
        (fun k => 0 ≤ k.2 ∧ k.2 ≤ l.length ∧ ∀ p, l[n.toNat]? = some p → k.1 = besTo l t p k.2.toNat) (fun k => l.length - k.2.toNat) (false, 0) ?_ (.mt [] ?_) fun k hk Kn2 hKn2 => ?_
      · exact ⟨Int.le_refl _, Int.natCast_nonneg _, fun p _ => rfl⟩
      · (cbv; repeat (refine ⟨rfl, ?_⟩; cbv))
      obtain ⟨b, m⟩ := k
      obtain ⟨hm0, hm1, hb⟩ := hk
      dsimp only at hm0 hm1 hb
      cbv
      refine brk (fun h4 => ?_) (fun h4 => ?_)
      · simp only [x_lt, x_len, la, decide_eq_true_eq] at h4
        have hma : m < (af.length : Int) := by rw [lal]; exact h4
        cbv
        refine .map hel n0 n1 (fun _ => rfl) fun p hp => ?_
        have hb := hb p hp
        cbv
        refine .map hel hm0 h4 (fun _ => rfl) fun q hq => ?_
        have hsd := hside p m.toNat q hp hq
        have hbs := besTo_succ (t := t) (p := p) hq
        rw [← hb] at hbs
        have hpq := nextR hP p q
        have hqp := nextR hP q p
        have hsq := seatR hP q
        have hsid : sideB p q = (nextP p q || nextP q p) := rfl
        have kn : ∀ env' own', StLe 0 env' own' ([.d (.sl el), .d (.sl et), .d (.sl ec), .top, .top, .top, .top, .b true, .d (.sl es), .d (.sl ea), .i i, .i n, .b (bAt env' 12), .i (iAt env' 13)] ++ List.replicate 109 .top) [] → iAt env' 13 = IntKind.i64.wrap (m + 1) → bAt env' 12 = (b || (sideB p q && (decide (0 ≤ q.row) && !takenL t m.toNat))) → Kn2 env' own' := fun env' own' hst hi' hb' => by
          have e1 : IntKind.i64.wrap (m + 1) = m + 1 := wr64 (by (first | omega | ((try simp only [nc] at *); (try simp only [Int.ofNat_eq_natCast] at *); omega))) (by (first | omega | ((try simp only [nc] at *); (try simp only [Int.ofNat_eq_natCast] at *); omega)))
          refine hKn2 _ _ hst ?_ ?_
          · rw [hi', hb', e1]
            refine ⟨by dsimp only; (first | omega | ((try simp only [nc] at *); (try simp only [Int.ofNat_eq_natCast] at *); omega)), by dsimp only; (first | omega | ((try simp only [nc] at *); (try simp only [Int.ofNat_eq_natCast] at *); omega)), fun p' hp' => ?_⟩
            rw [hp] at hp'; cases hp'
            dsimp only
            rw [show (m + 1).toNat = m.toNat + 1 by (first | omega | ((try simp only [nc] at *); (try simp only [Int.ofNat_eq_natCast] at *); omega)), hbs]
          · rw [hi', e1]; dsimp only; (first | omega | ((try simp only [nc] at *); (try simp only [Int.ofNat_eq_natCast] at *); omega))
        rw [Int.toNat_of_nonneg hm0] at kn
        generalize sideB p q = sd at hsd hsid kn
        generalize nextP p q = nx at hpq hsid
        generalize nextP q p = ny at hqp hsid
        clear hb hKn2 hside hbes hasc hbs
        generalize hst : decide (0 ≤ q.row) = st at hsq kn
        have hstr : st = true → 0 ≤ q.row := fun e => by rw [← hst] at e; exact of_decide_eq_true e
        obtain ⟨kind, level, block, row, seat, px, py, view, wit⟩ := p
        obtain ⟨kind', level', block', row', seat', px', py', view', wit'⟩ := q
        cbv
        refine .f1 hpq rfl rfl ?_
        cbv
        refine brk (fun h5 => ?_) (fun h5 => ?_)
        · simp only [x_not, Bool.not_eq_true'] at h5
          subst h5
          cbv
          refine .map hel hm0 h4 (fun _ => rfl) fun q' hq' => ?_
          rw [hq] at hq'; cases hq'
          cbv
          refine .map hel n0 n1 (fun _ => rfl) fun p' hp' => ?_
          rw [hp] at hp'; cases hp'
          cbv
          refine .f1 hqp rfl rfl ?_
          cbv
          refine brk (fun h5 => ?_) (fun h5 => ?_)
          · simp only [x_not, Bool.not_eq_true'] at h5
            subst h5
            cbv
            refine kn _ _ (.mt [] ?_) ?_ ?_
            · (cbv; repeat (refine ⟨rfl, ?_⟩; cbv))
            · simp only [iAt, geti, x_add]
            · simp only [bAt, geti, hsid]; simp
          · simp only [x_not, Bool.not_eq_false'] at h5
            subst h5
            have hsid : sd = true := by rw [hsid]; rfl
            cbv
            refine .map hel hm0 h4 (fun _ => rfl) fun q' hq' => ?_
            rw [hq] at hq'; cases hq'
            cbv
            refine .f1 hsq rfl rfl ?_
            cbv
            refine brk (fun h6 => ?_) (fun h6 => ?_)
            · simp only [x_not, Bool.not_eq_true'] at h6
              subst h6
              cbv
              refine kn _ _ (.mt [] ?_) ?_ ?_
              · (cbv; repeat (refine ⟨rfl, ?_⟩; cbv))
              · simp only [iAt, geti, x_add]
              · simp only [bAt, geti, hsid]; simp
            · simp only [x_not, Bool.not_eq_false'] at h6
              subst h6
              have haf2 := hsd hsid (hstr rfl)
              cbv
              refine .map hea hm0 hma (fun _ => rfl) fun u hu => ?_
              rw [haf2] at hu; cases hu
              cbv
              refine brk (fun h7 => ?_) (fun h7 => ?_)
              · cbv; simp [x_not] at h7
              clear h7
              cbv
              refine brk (fun h8 => ?_) (fun h8 => ?_)
              · subst h8
                cbv
                refine kn _ _ (.mt [] ?_) ?_ ?_
                · (cbv; repeat (refine ⟨rfl, ?_⟩; cbv))
                · simp only [iAt, geti, x_add]
                · simp only [bAt, geti]; simp
              · subst h8
                cbv
                refine .f1z (takenR hP m het) rfl rfl ?_
                generalize htk : takenL t m = tk at kn
                cbv
                refine kn _ _ (.mt [] ?_) ?_ ?_
                · (cbv; repeat (refine ⟨rfl, ?_⟩; cbv))
                · simp only [iAt, geti, x_add]
                · simp only [bAt, geti, hsid, x_not]; simp
        · simp only [x_not, Bool.not_eq_false'] at h5
          subst h5
          have hsid : sd = true := by rw [hsid]; rfl
          cbv
          refine .map hel hm0 h4 (fun _ => rfl) fun q' hq' => ?_
          rw [hq] at hq'; cases hq'
          cbv
          refine .f1 hsq rfl rfl ?_
          cbv
          refine brk (fun h6 => ?_) (fun h6 => ?_)
          · simp only [x_not, Bool.not_eq_true'] at h6
            subst h6
            cbv
            refine kn _ _ (.mt [] ?_) ?_ ?_
            · (cbv; repeat (refine ⟨rfl, ?_⟩; cbv))
            · simp only [iAt, geti, x_add]
            · simp only [bAt, geti, hsid]; simp
          · simp only [x_not, Bool.not_eq_false'] at h6
            subst h6
            have haf2 := hsd hsid (hstr rfl)
            cbv
            refine .map hea hm0 hma (fun _ => rfl) fun u hu => ?_
            rw [haf2] at hu; cases hu
            cbv
            refine brk (fun h7 => ?_) (fun h7 => ?_)
            · cbv; simp [x_not] at h7
            clear h7
            cbv
            refine brk (fun h8 => ?_) (fun h8 => ?_)
            · subst h8
              cbv
              refine kn _ _ (.mt [] ?_) ?_ ?_
              · (cbv; repeat (refine ⟨rfl, ?_⟩; cbv))
              · simp only [iAt, geti, x_add]
              · simp only [bAt, geti]; simp
            · subst h8
              cbv
              refine .f1z (takenR hP m het) rfl rfl ?_
              generalize htk : takenL t m = tk at kn
              cbv
              refine kn _ _ (.mt [] ?_) ?_ ?_
              · (cbv; repeat (refine ⟨rfl, ?_⟩; cbv))
              · simp only [iAt, geti, x_add]
              · simp only [bAt, geti, hsid, x_not]; simp
      · simp only [x_lt, x_len, la, decide_eq_false_iff_not] at h4
        obtain ⟨p, hp⟩ : ∃ p, l[n.toNat]? = some p := ⟨_, List.getElem?_eq_getElem (by (first | omega | ((try simp only [nc] at *); (try simp only [Int.ofNat_eq_natCast] at *); omega)))⟩
        have hb := hb p hp
        rw [show m.toNat = l.length by (first | omega | ((try simp only [nc] at *); (try simp only [Int.ofNat_eq_natCast] at *); omega)), hbes p hp] at hb
        subst hb
        clear hKn2
        cbv
        refine brk (fun h5 => ?_) (fun h5 => ?_)
        · cbv; simp [x_not] at h5
        clear h5
        cbv
        refine hKn _ _ (.mt [] ?_) ?_ ?_
        · (cbv; repeat (refine ⟨rfl, ?_⟩; cbv))
        · simp only [iAt, geti, x_add]
          rw [wr64 (by (first | omega | ((try simp only [nc] at *); (try simp only [Int.ofNat_eq_natCast] at *); omega))) (by (first | omega | ((try simp only [nc] at *); (try simp only [Int.ofNat_eq_natCast] at *); omega)))]
          exact ⟨by (first | omega | ((try simp only [nc] at *); (try simp only [Int.ofNat_eq_natCast] at *); omega)), by (first | omega | ((try simp only [nc] at *); (try simp only [Int.ofNat_eq_natCast] at *); omega))⟩
        · simp only [iAt, geti, x_add]
          rw [wr64 (by (first | omega | ((try simp only [nc] at *); (try simp only [Int.ofNat_eq_natCast] at *); omega))) (by (first | omega | ((try simp only [nc] at *); (try simp only [Int.ofNat_eq_natCast] at *); omega)))]
          (first | omega | ((try simp only [nc] at *); (try simp only [Int.ofNat_eq_natCast] at *); omega))
  · cbv
    exact hK _ _ rfl
end Go.SX.Runs
