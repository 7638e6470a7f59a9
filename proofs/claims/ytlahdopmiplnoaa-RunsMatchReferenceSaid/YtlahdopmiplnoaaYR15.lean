/-
  Runs: the single places that are left over.
-/
import Derived.Test.YtlahdopmiplnoaaYR14
import Derived.Test.YtlahdopmiplnoaaYCode2
set_option linter.unusedSimpArgs false
set_option linter.unusedVariables false
set_option linter.unusedSectionVars false
namespace Go.SX.Runs
open Go Go.Proofs
/- Maps from ints to ints. -/
def iput : List (Int × Int) → Int → Int → List (Int × Int)
  | [], k, v => [(k, v)]
  | (a, b) :: m, k, v => if k = a then (k, v) :: m else (a, b) :: iput m k v
def iget : List (Int × Int) → Int → Option Int
  | [], _ => none
  | (a, b) :: m, k => if k = a then some b else iget m k
def encM (m : List (Int × Int)) : List (Value × List D) := m.map fun p => (.int .i64 p.1, [dv p.2])
theorem mput_enc (m : List (Int × Int)) (k v : Int) : mput (encM m) (.int .i64 k) [dv v] = encM (iput m k v) := by
  induction m with
  | nil => rfl
  | cons p m ih =>
    obtain ⟨a, b⟩ := p
    simp only [encM, List.map_cons, mput, iput, keyEq, decide_true, Bool.true_and, decide_eq_true_eq] at ih ⊢
    split
    · rfl
    · rw [ih]; rfl
theorem mget_enc (m : List (Int × Int)) (k : Int) : mget (encM m) (.int .i64 k) = (iget m k).map fun v => [dv v] := by
  induction m with
  | nil => rfl
  | cons p m ih =>
    obtain ⟨a, b⟩ := p
    simp only [encM, List.map_cons, mget, iget, keyEq, decide_true, Bool.true_and, decide_eq_true_eq] at ih ⊢
    split
    · rfl
    · exact ih
theorem iget_iput (m : List (Int × Int)) (k v x : Int) : iget (iput m k v) x = if x = k then some v else iget m x := by
  induction m with
  | nil => rfl
  | cons p m ih =>
    obtain ⟨a, b⟩ := p
    simp only [iput]
    split
    · rename_i h; subst h
      simp only [iget]
      split <;> rfl
    · rename_i h
      simp only [iget, ih]
      split
      · rename_i h2; subst h2; rw [if_neg (fun e => h e.symm)]
      · rfl
def bm (rs : List (List Int)) : List (Int × Int) := rs.foldl (fun m r => iput m (r.headD 0) r.length) []
theorem bm_snoc (rs : List (List Int)) (r : List Int) : bm (rs ++ [r]) = iput (bm rs) (r.headD 0) r.length := by simp [bm, List.foldl_append]
def wasL (rs : List (List Int)) (x : Int) : Int := (iget (bm rs) x).getD 0
def leftL (rs ns : List (List Int)) : List Int := (ns.filter fun r => decide (r.length = 1) && !decide (wasL rs (r.headD 0) = 1)).map (·.headD 0)
theorem leftL_snoc (rs ns : List (List Int)) (r : List Int) : leftL rs (ns ++ [r]) = leftL rs ns ++ (if decide (r.length = 1) && !decide (wasL rs (r.headD 0) = 1) then [r.headD 0] else []) := by
  rw [leftL, leftL, List.filter_append, List.map_append]
  congr 1
  cases h : (decide (r.length = 1) && !decide (wasL rs (r.headD 0) = 1)) with
  | false => simp only [List.filter_cons, List.filter_nil, h]; rfl
  | true => simp only [List.filter_cons, List.filter_nil, h]; rfl
theorem leftL_len (rs ns : List (List Int)) : (leftL rs ns).length ≤ ns.length := by
  rw [leftL, List.length_map]; exact List.length_filter_le _ _
def singlesL (l : List Place) (t : List Bool) (c : List Int) : List Int := leftL (freeI l t) (freeI l (afterL l t c))
theorem divTo_ne (fl : List (Place × Nat)) (k : Nat) (hk : k ≤ fl.length) : ∀ g ∈ (divTo fl k).1, g ≠ [] := by
  induction k with
  | zero => intro g hg; simp [divTo] at hg
  | succ k ih =>
    intro g hg
    rw [divTo_succ, divStep] at hg
    split at hg
    · rcases List.mem_append.1 hg with h | h
      · exact ih (by omega) g h
      · rw [List.mem_singleton.1 h]
        have := (divTo_le fl k).1
        intro e
        have := congrArg List.length e
        simp at this; omega
    · exact ih (by omega) g hg
theorem freeI_ne {l : List Place} {t : List Bool} {r : List Int} (h : r ∈ freeI l t) : r ≠ [] := by
  rw [freeI, List.mem_map] at h
  obtain ⟨g, hg, rfl⟩ := h
  have := divTo_ne _ _ (Nat.le_refl _) g hg
  simpa [runI] using this
theorem allL_len (l : List Place) : (allL l).length ≤ l.length := by
  rw [allL]; split
  · exact seatsL_len l
  · simp
theorem freeI_len (l : List Place) (t : List Bool) : (freeI l t).length ≤ l.length := by
  rw [freeI, List.length_map]
  exact Nat.le_trans (divideL_len _) (Nat.le_trans (freeL_len _ _) (allL_len l))
theorem freeI_mem {l : List Place} {t : List Bool} {r : List Int} (h : r ∈ freeI l t) : r.length ≤ l.length := by
  rw [freeI, List.mem_map] at h
  obtain ⟨g, hg, rfl⟩ := h
  rw [runI, List.length_map]
  exact Nat.le_trans (divideL_mem hg) (Nat.le_trans (freeL_len _ _) (allL_len l))
def mAt (own : List Res) (n : Nat) : List (Value × List D) := match getr own n with | .mp _ _ es => es | _ => []
theorem head_of {r : List Int} {x : Int} (h : r[(Int.ofNat 0).toNat]? = some x) : r.headD 0 = x := by
  cases r with
  | nil => simp at h
  | cons a r => simp at h; simpa using h
variable {P : Program} (hP : P = Try.prog)
include hP
set_option maxHeartbeats 4000000 in
theorem singlesR {l : List Place} {el : List (List D)} {t : List Bool} {et : List (List D)} {c : List Int} {ec : List (List D)} (hel : el = l.map Place.ds) (het : et = t.map dB) (hec : ec = c.map dI) (hl : l.length ≤ 1000000000) (hc : c.length ≤ 1000000000) :
    Fn1 P 20 [.d (.sl el), .d (.sl et), .d (.sl ec)] (.d (.sl ((singlesL l t c).map dI))) := by
  refine .walkD (hP ▸ d20_ok) fun K hK => ?_
  have la : (el.length : Int) = l.length := by simp [hel]
  cbv
  refine .of (m := l.length) (by simp only [x_len, la]) hl (by decide) ?_
  cbv
  refine .intro (ι := Int × List (List D) × Int) (fun k => [.d (.sl el), .d (.sl et), .d (.sl ec)] ++ List.replicate 4 .top ++ [.hd 0] ++ List.replicate 11 .top ++ [.i k.1, .i k.2.2] ++ List.replicate 57 .top) (fun k => [.row 4 1 k.2.1]) (fun env own => (iAt env 19, rAt own 0, iAt env 20))
    (fun k => k.1 = l.length ∧ 0 ≤ k.2.2 ∧ k.2.2 ≤ l.length ∧ ∃ ml : List Bool, k.2.1 = ml.map dB ∧ ml.length = l.length ∧ ml.take k.2.2.toNat = (afterL l t c).take k.2.2.toNat) (fun k => l.length - k.2.2.toNat)
    ((Classical.choice ioEx).1.len el, (Classical.choice ioEx).1.rep ((Classical.choice ioEx).1.len el) [.val (.bool false)], 0) ?_ (.mt [0] ?_) fun k hk Kn hKn => ?_
  · refine ⟨by simp only [x_len, la], Int.le_refl _, Int.natCast_nonneg _, List.replicate l.length false, ?_, by simp, rfl⟩
    simp only [x_rep, x_len, la, List.map_replicate]; rfl
  · (cbv; repeat (refine ⟨rfl, ?_⟩; cbv))
  obtain ⟨n, eo, k⟩ := k
  obtain ⟨hn, hk0, hk1, ml, hml, hmlen, hmt⟩ := hk
  dsimp only at hn hk0 hk1 hml hmt
  have lo : eo.length = l.length := by rw [hml, List.length_map, hmlen]
  cbv
  refine brk (fun h => ?_) (fun h => ?_)
  · simp only [x_lt, hn, decide_eq_true_eq] at h
    have hkl : k.toNat < (afterL l t c).length := by rw [afterL, List.length_map, List.length_range]; ((try simp only [nc] at *); (try simp only [Int.ofNat_eq_natCast] at *); omega)
    have hak : (afterL l t c)[k.toNat]? = some (takenL t k || decide (k ∈ c)) := by
      rw [afterL, List.getElem?_map, List.getElem?_range (by ((try simp only [nc] at *); (try simp only [Int.ofNat_eq_natCast] at *); omega))]
      simp only [Option.map_some, Int.toNat_of_nonneg hk0]
    have fin : ∀ b : Bool, b = (takenL t k || decide (k ∈ c)) → (ml.set k.toNat b).take (k.toNat + 1) = (afterL l t c).take (k.toNat + 1) := fun b hb => by
      have hlt : k.toNat < ml.length := by ((try simp only [nc] at *); (try simp only [Int.ofNat_eq_natCast] at *); omega)
      have hg : (ml.set k.toNat b)[k.toNat]? = some b := List.getElem?_set_self hlt
      rw [take_succ_eq hg, take_succ_eq hak, List.take_set_of_le (Nat.le_refl _), hmt, hb]
    cbv
    refine .f1 (isR hP k het hk0) rfl rfl ?_
    generalize hv : takenL t k = v
    rw [hv] at fin
    cbv
    refine brk (fun h1 => ?_) (fun h1 => ?_)
    · subst h1
      cbv
      refine ⟨hk0, by rw [lo]; exact h, ?_⟩
      cbv
      refine .map hml (by simp only [x_nat]; ((try simp only [nc] at *); (try simp only [Int.ofNat_eq_natCast] at *); omega)) fun y hy => ?_
      cbv
      refine hKn _ _ (.mt [0] ?_) ?_ ?_
      · (cbv; repeat (refine ⟨rfl, ?_⟩; cbv))
      · simp only [iAt, geti, rAt, getr, x_add, x_set, x_nat]
        rw [wr64 (by ((try simp only [nc] at *); (try simp only [Int.ofNat_eq_natCast] at *); omega)) (by ((try simp only [nc] at *); (try simp only [Int.ofNat_eq_natCast] at *); omega)), toNat_succ hk0]
        refine ⟨hn, by ((try simp only [nc] at *); (try simp only [Int.ofNat_eq_natCast] at *); omega), by ((try simp only [nc] at *); (try simp only [Int.ofNat_eq_natCast] at *); omega), ml.set k.toNat true, ?_, by rw [List.length_set]; exact hmlen, fin true (by simp)⟩
        rw [hml, List.map_set]; rfl
      · simp only [iAt, geti, x_add]
        rw [wr64 (by ((try simp only [nc] at *); (try simp only [Int.ofNat_eq_natCast] at *); omega)) (by ((try simp only [nc] at *); (try simp only [Int.ofNat_eq_natCast] at *); omega))]
        ((try simp only [nc] at *); (try simp only [Int.ofNat_eq_natCast] at *); omega)
    · subst h1
      cbv
      refine .f1 (containsR hP k hec hc) rfl rfl ?_
      generalize hw : decide (k ∈ c) = w
      simp only [Bool.false_or, hw] at fin
      cbv
      refine ⟨hk0, by rw [lo]; exact h, ?_⟩
      cbv
      refine .map hml (by simp only [x_nat]; ((try simp only [nc] at *); (try simp only [Int.ofNat_eq_natCast] at *); omega)) fun y hy => ?_
      cbv
      refine hKn _ _ (.mt [0] ?_) ?_ ?_
      · (cbv; repeat (refine ⟨rfl, ?_⟩; cbv))
      · simp only [iAt, geti, rAt, getr, x_add, x_set, x_nat]
        rw [wr64 (by ((try simp only [nc] at *); (try simp only [Int.ofNat_eq_natCast] at *); omega)) (by ((try simp only [nc] at *); (try simp only [Int.ofNat_eq_natCast] at *); omega)), toNat_succ hk0]
        refine ⟨hn, by ((try simp only [nc] at *); (try simp only [Int.ofNat_eq_natCast] at *); omega), by ((try simp only [nc] at *); (try simp only [Int.ofNat_eq_natCast] at *); omega), ml.set k.toNat w, ?_, by rw [List.length_set]; exact hmlen, fin w rfl⟩
        rw [hml, List.map_set]; rfl
      · simp only [iAt, geti, x_add]
        rw [wr64 (by ((try simp only [nc] at *); (try simp only [Int.ofNat_eq_natCast] at *); omega)) (by ((try simp only [nc] at *); (try simp only [Int.ofNat_eq_natCast] at *); omega))]
        ((try simp only [nc] at *); (try simp only [Int.ofNat_eq_natCast] at *); omega)
  simp only [x_lt, hn, decide_eq_false_iff_not] at h
  have hal : (afterL l t c).length = l.length := by simp [afterL]
  have hea : eo = (afterL l t c).map dB := by
    rw [List.take_of_length_le (by ((try simp only [nc] at *); (try simp only [Int.ofNat_eq_natCast] at *); omega)), List.take_of_length_le (by ((try simp only [nc] at *); (try simp only [Int.ofNat_eq_natCast] at *); omega))] at hmt
    rw [hml, hmt]
  clear hml hmt hmlen hKn lo h hn hk0 hk1
  have hKs : ∀ sv own', nrmR (frzR own' sv) sv = SV.d (D.sl ((leftL (freeI l t) (freeI l (afterL l t c))).map dI)) → K sv own' := hK
  clear hK
  have hfl1 := freeI_len l t
  have hfm1 : ∀ r ∈ freeI l t, r ≠ [] ∧ r.length ≤ l.length := fun r hr => ⟨freeI_ne hr, freeI_mem hr⟩
  have hfl2 := freeI_len l (afterL l t c)
  have hfm2 : ∀ r ∈ freeI l (afterL l t c), r ≠ [] ∧ r.length ≤ l.length := fun r hr => ⟨freeI_ne hr, freeI_mem hr⟩
  have hfR2 := freeR hP hel hea hl
  cbv
  refine .f1z (freeR hP hel het hl) rfl rfl ?_
  generalize freeI l t = rs at hKs hfl1 hfm1
  generalize freeI l (afterL l t c) = ns at hKs hfl2 hfm2 hfR2
  obtain ⟨er, her⟩ : ∃ er, er = rs.map dL := ⟨_, rfl⟩
  obtain ⟨en, hen⟩ : ∃ en, en = ns.map dL := ⟨_, rfl⟩
  rw [← hen] at hfR2
  rw [← her]
  have lr : (er.length : Int) = rs.length := by simp [her]
  have ln : (en.length : Int) = ns.length := by simp [hen]
  cbv
  refine .intro (ι := Int × List (Value × List D) × Int) (fun k => [.d (.sl el), .d (.sl et), .d (.sl ec)] ++ List.replicate 4 .top ++ [.hd 0, .top, .hd 1] ++ List.replicate 28 .top ++ [.d (.sl er), .i k.1, .i k.2.2] ++ List.replicate 37 .top) (fun k => [.row 4 1 eo, .mp (.int .i64) false k.2.1]) (fun env own => (iAt env 39, mAt own 1, iAt env 40))
    (fun k => k.1 = rs.length ∧ 0 ≤ k.2.2 ∧ k.2.2 ≤ rs.length ∧ k.2.1 = encM (bm (rs.take k.2.2.toNat))) (fun k => rs.length - k.2.2.toNat)
    ((Classical.choice ioEx).1.len er, [], 0) ?_ (.mt [0, 1] ?_) fun k hk Kn hKn => ?_
  · exact ⟨by simp only [x_len, lr], Int.le_refl _, Int.natCast_nonneg _, rfl⟩
  · (cbv; repeat (refine ⟨rfl, ?_⟩; cbv))
  obtain ⟨n, m, k⟩ := k
  obtain ⟨hn, hk0, hk1, hm⟩ := hk
  dsimp only at hn hk0 hk1 hm
  cbv
  refine brk (fun h => ?_) (fun h => ?_)
  · simp only [x_lt, hn, decide_eq_true_eq] at h
    cbv
    refine .lists her hk0 (by ((try simp only [nc] at *); (try simp only [Int.ofNat_eq_natCast] at *); omega)) fun r y hr hy => ?_
    obtain ⟨hr1, hr2⟩ := hfm1 r (List.mem_of_getElem? hr)
    have hr3 : 0 < r.length := List.length_pos_iff.2 hr1
    have ly : (y.length : Int) = r.length := by simp [hy]
    cbv
    refine .map hy (Int.le_refl _) (by ((try simp only [nc] at *); (try simp only [Int.ofNat_eq_natCast] at *); omega)) (fun _ => rfl) fun x hx => ?_
    cbv
    refine hKn _ _ (.mt [0, 1] ?_) ?_ ?_
    · (cbv; repeat (refine ⟨rfl, ?_⟩; cbv))
    · simp only [iAt, geti, mAt, getr, x_add, x_mput, x_len, ly]
      rw [wr64 (by ((try simp only [nc] at *); (try simp only [Int.ofNat_eq_natCast] at *); omega)) (by ((try simp only [nc] at *); (try simp only [Int.ofNat_eq_natCast] at *); omega)), toNat_succ hk0, take_succ_eq hr, bm_snoc, head_of hx, ← mput_enc, hm]
      exact ⟨hn, by ((try simp only [nc] at *); (try simp only [Int.ofNat_eq_natCast] at *); omega), by ((try simp only [nc] at *); (try simp only [Int.ofNat_eq_natCast] at *); omega), rfl⟩
    · simp only [iAt, geti, x_add]
      rw [wr64 (by ((try simp only [nc] at *); (try simp only [Int.ofNat_eq_natCast] at *); omega)) (by ((try simp only [nc] at *); (try simp only [Int.ofNat_eq_natCast] at *); omega))]
      ((try simp only [nc] at *); (try simp only [Int.ofNat_eq_natCast] at *); omega)
  simp only [x_lt, hn, decide_eq_false_iff_not] at h
  rw [List.take_of_length_le (by ((try simp only [nc] at *); (try simp only [Int.ofNat_eq_natCast] at *); omega))] at hm
  clear hKn hk0 hk1 hn h
  cbv
  refine .f1z hfR2 rfl rfl ?_
  cbv
  refine .intro (ι := List (List D) × Int × Int) (fun k => [.d (.sl el), .d (.sl et), .d (.sl ec)] ++ List.replicate 6 .top ++ [.hd 0, .top, .top, .hd 1] ++ List.replicate 40 .top ++ [.d (.sl en), .i k.2.1, .i k.2.2] ++ List.replicate 22 .top) (fun k => [.mp (.int .i64) false m, .row 3 1 k.1]) (fun env own => (rAt own (hAt env 12), iAt env 54, iAt env 55))
    (fun k => k.2.1 = ns.length ∧ 0 ≤ k.2.2 ∧ k.2.2 ≤ ns.length ∧ k.1 = (leftL rs (ns.take k.2.2.toNat)).map dI) (fun k => ns.length - k.2.2.toNat)
    ([], (Classical.choice ioEx).1.len en, 0) ?_ (.nilrow 12 3 1 rfl (.mt [1, 2] ?_)) fun k hk Kn hKn => ?_
  · exact ⟨by simp only [x_len, ln], Int.le_refl _, Int.natCast_nonneg _, rfl⟩
  · (cbv; repeat (refine ⟨rfl, ?_⟩; cbv))
  obtain ⟨eo2, n2, k2⟩ := k
  obtain ⟨hn, hk0, hk1, ho⟩ := hk
  dsimp only at hn hk0 hk1 ho
  have hol : eo2.length ≤ 1000000000 := by
    have := leftL_len rs (ns.take k2.toNat)
    rw [ho, List.length_map]; rw [List.length_take] at this; omega
  cbv
  refine brk (fun h => ?_) (fun h => ?_)
  · simp only [x_lt, hn, decide_eq_true_eq] at h
    cbv
    refine .lists hen hk0 (by ((try simp only [nc] at *); (try simp only [Int.ofNat_eq_natCast] at *); omega)) fun r y hr hy => ?_
    obtain ⟨hr1, hr2⟩ := hfm2 r (List.mem_of_getElem? hr)
    have hr3 : 0 < r.length := List.length_pos_iff.2 hr1
    have ly : (y.length : Int) = r.length := by simp [hy]
    cbv
    refine brk (fun h1 => ?_) (fun h1 => ?_)
    · simp only [x_eq, x_len, ly, decide_eq_true_eq] at h1
      have hone : r.length = 1 := by ((try simp only [nc] at *); (try simp only [Int.ofNat_eq_natCast] at *); omega)
      cbv
      refine .map hy (Int.le_refl _) (by ((try simp only [nc] at *); (try simp only [Int.ofNat_eq_natCast] at *); omega)) (fun _ => rfl) fun x hx => ?_
      have hh := head_of hx
      cbv
      refine ⟨fun ds hds => ?_, fun hno => ?_⟩
      · rw [hm, mget_enc, Option.map_eq_some_iff] at hds
        obtain ⟨v, hv, rfl⟩ := hds
        have hwas : wasL rs x = v := by rw [wasL, hv]; rfl
        cbv
        refine brk (fun h2 => ?_) (fun h2 => ?_)
        · simp only [x_eq, x_not, Bool.not_eq_true', decide_eq_false_iff_not] at h2
          cbv
          refine .map hy (Int.le_refl _) (by ((try simp only [nc] at *); (try simp only [Int.ofNat_eq_natCast] at *); omega)) (fun _ => rfl) fun x' hx' => ?_
          rw [hx] at hx'; cases hx'
          cbv
          refine .one rfl hol (by decide) ?_
          cbv
          refine hKn _ _ (.mt [0, 3] ?_) ?_ ?_
          · (cbv; repeat (refine ⟨rfl, ?_⟩; cbv))
          · simp only [iAt, geti, hAt, rAt, getr, x_add, x_app]
            rw [wr64 (by ((try simp only [nc] at *); (try simp only [Int.ofNat_eq_natCast] at *); omega)) (by ((try simp only [nc] at *); (try simp only [Int.ofNat_eq_natCast] at *); omega)), toNat_succ hk0, take_succ_eq hr, leftL_snoc, hh, hone, hwas, if_pos (by simp [h2])]
            refine ⟨hn, by ((try simp only [nc] at *); (try simp only [Int.ofNat_eq_natCast] at *); omega), by ((try simp only [nc] at *); (try simp only [Int.ofNat_eq_natCast] at *); omega), ?_⟩
            rw [List.map_append, ho]; rfl
          · simp only [iAt, geti, x_add]
            rw [wr64 (by ((try simp only [nc] at *); (try simp only [Int.ofNat_eq_natCast] at *); omega)) (by ((try simp only [nc] at *); (try simp only [Int.ofNat_eq_natCast] at *); omega))]
            ((try simp only [nc] at *); (try simp only [Int.ofNat_eq_natCast] at *); omega)
        · simp only [x_eq, x_not, Bool.not_eq_false', decide_eq_true_eq] at h2
          cbv
          refine hKn _ _ (.mt [0, 1] ?_) ?_ ?_
          · (cbv; repeat (refine ⟨rfl, ?_⟩; cbv))
          · simp only [iAt, geti, hAt, rAt, getr, x_add]
            rw [wr64 (by ((try simp only [nc] at *); (try simp only [Int.ofNat_eq_natCast] at *); omega)) (by ((try simp only [nc] at *); (try simp only [Int.ofNat_eq_natCast] at *); omega)), toNat_succ hk0, take_succ_eq hr, leftL_snoc, hh, hone, hwas, if_neg (by simp [h2]), List.append_nil]
            exact ⟨hn, by ((try simp only [nc] at *); (try simp only [Int.ofNat_eq_natCast] at *); omega), by ((try simp only [nc] at *); (try simp only [Int.ofNat_eq_natCast] at *); omega), ho⟩
          · simp only [iAt, geti, x_add]
            rw [wr64 (by ((try simp only [nc] at *); (try simp only [Int.ofNat_eq_natCast] at *); omega)) (by ((try simp only [nc] at *); (try simp only [Int.ofNat_eq_natCast] at *); omega))]
            ((try simp only [nc] at *); (try simp only [Int.ofNat_eq_natCast] at *); omega)
      · rw [hm, mget_enc, Option.map_eq_none_iff] at hno
        have hwas : wasL rs x = 0 := by rw [wasL, hno]; rfl
        cbv
        refine brk (fun h2 => ?_) (fun h2 => ?_)
        · have h2 : ¬ ((0 : Int) = 1) := by omega
          cbv
          refine .map hy (Int.le_refl _) (by ((try simp only [nc] at *); (try simp only [Int.ofNat_eq_natCast] at *); omega)) (fun _ => rfl) fun x' hx' => ?_
          rw [hx] at hx'; cases hx'
          cbv
          refine .one rfl hol (by decide) ?_
          cbv
          refine hKn _ _ (.mt [0, 3] ?_) ?_ ?_
          · (cbv; repeat (refine ⟨rfl, ?_⟩; cbv))
          · simp only [iAt, geti, hAt, rAt, getr, x_add, x_app]
            rw [wr64 (by ((try simp only [nc] at *); (try simp only [Int.ofNat_eq_natCast] at *); omega)) (by ((try simp only [nc] at *); (try simp only [Int.ofNat_eq_natCast] at *); omega)), toNat_succ hk0, take_succ_eq hr, leftL_snoc, hh, hone, hwas, if_pos (by simp)]
            refine ⟨hn, by ((try simp only [nc] at *); (try simp only [Int.ofNat_eq_natCast] at *); omega), by ((try simp only [nc] at *); (try simp only [Int.ofNat_eq_natCast] at *); omega), ?_⟩
            rw [List.map_append, ho]; rfl
          · simp only [iAt, geti, x_add]
            rw [wr64 (by ((try simp only [nc] at *); (try simp only [Int.ofNat_eq_natCast] at *); omega)) (by ((try simp only [nc] at *); (try simp only [Int.ofNat_eq_natCast] at *); omega))]
            ((try simp only [nc] at *); (try simp only [Int.ofNat_eq_natCast] at *); omega)
        · simp only [x_eq, x_not, Bool.not_eq_false', decide_eq_true_eq] at h2
          exact absurd h2 (by decide)
    · simp only [x_eq, x_len, ly, decide_eq_false_iff_not] at h1
      cbv
      refine hKn _ _ (.mt [0, 1] ?_) ?_ ?_
      · (cbv; repeat (refine ⟨rfl, ?_⟩; cbv))
      · simp only [iAt, geti, hAt, rAt, getr, x_add]
        rw [wr64 (by ((try simp only [nc] at *); (try simp only [Int.ofNat_eq_natCast] at *); omega)) (by ((try simp only [nc] at *); (try simp only [Int.ofNat_eq_natCast] at *); omega)), toNat_succ hk0, take_succ_eq hr, leftL_snoc, decide_eq_false (show ¬ r.length = 1 by ((try simp only [nc] at *); (try simp only [Int.ofNat_eq_natCast] at *); omega)), Bool.false_and, if_neg (by simp), List.append_nil]
        exact ⟨hn, by ((try simp only [nc] at *); (try simp only [Int.ofNat_eq_natCast] at *); omega), by ((try simp only [nc] at *); (try simp only [Int.ofNat_eq_natCast] at *); omega), ho⟩
      · simp only [iAt, geti, x_add]
        rw [wr64 (by ((try simp only [nc] at *); (try simp only [Int.ofNat_eq_natCast] at *); omega)) (by ((try simp only [nc] at *); (try simp only [Int.ofNat_eq_natCast] at *); omega))]
        ((try simp only [nc] at *); (try simp only [Int.ofNat_eq_natCast] at *); omega)
  · simp only [x_lt, hn, decide_eq_false_iff_not] at h
    rw [List.take_of_length_le (by ((try simp only [nc] at *); (try simp only [Int.ofNat_eq_natCast] at *); omega))] at ho
    cbv
    refine hKs _ _ (slE ?_)
    exact ho
end Go.SX.Runs
/-
  Runs: the fixed examples.
-/
namespace Go.SX.Runs
open Go Go.Proofs
theorem sortL_perm (c : List Int) : (sortL c).Perm c := List.mergeSort_perm _ _
theorem sortL_eq {c s : List Int} (hp : s.Perm c) (hs : s.Pairwise (· ≤ ·)) : sortL c = s :=
  List.Perm.eq_of_pairwise (le := (· ≤ ·)) (fun _ _ _ _ h1 h2 => Int.le_antisymm h1 h2) (sortL_pw c) hs ((sortL_perm c).trans hp.symm)
theorem sortL_same {c d : List Int} (hp : c.Perm d) : sortL c = sortL d := sortL_eq ((sortL_perm d).trans hp.symm) (sortL_pw d)
def arL : List Place := [⟨0, 0, 0, -1, 1, 0, 0, 0, 0⟩, ⟨0, 0, 0, -1, 7, 0, 0, 0, 0⟩, ⟨0, 0, 1, -1, 0, 0, 0, 0, 0⟩]
def unL : List Place := [⟨0, 0, 0, 0, 2, 0, 0, 0, 0⟩, ⟨0, 0, 0, 0, 1, 0, 0, 0, 0⟩]
theorem k1 : freeI exL [] = [[0, 1, 2], [3, 4]] := by decide +kernel
theorem k2 : freeI exL [false, true] = [[0], [2], [3, 4]] := by decide +kernel
theorem k3 : togetherL exL [2, 0, 1] = true := by
  rw [togetherL, sortL_eq (s := [0, 1, 2]) (by decide) (by decide)]; decide +kernel
theorem k4 : togetherL exL [2, 3] = false := by
  rw [togetherL, sortL_eq (s := [2, 3]) (by decide) (by decide)]; decide +kernel
theorem k5 : togetherL exL [3] = true := by
  rw [togetherL, sortL_eq (s := [3]) (by decide) (by decide)]; decide +kernel
theorem k6 : singlesL exL [] [0, 1] = [2] := by decide +kernel
theorem k7 : singlesL exL [] [1] = [0, 2] := by decide +kernel
theorem k8 : singlesL exL [] [3] = [4] := by decide +kernel
theorem k9 : singlesL exL [] [3, 4] = [] := by decide +kernel
theorem k10 : togetherL arL [1, 0] = true := by
  rw [togetherL, sortL_eq (s := [0, 1]) (by decide) (by decide)]; decide +kernel
theorem k11 : togetherL arL [1, 2] = false := by
  rw [togetherL, sortL_eq (s := [1, 2]) (by decide) (by decide)]; decide +kernel
theorem k12 : freeI arL [] = [] := by decide +kernel
theorem k13 : freeI unL [] = [] := by decide +kernel
variable {P : Program} (hP : P = Try.prog)
include hP
set_option maxHeartbeats 4000000 in
theorem headR : Fn1 P 10 [] (.b true) := by
  refine .walk (hP ▸ d10_ok) fun K hK => ?_
  cbv
  refine .f1z (exampleR hP) rfl rfl ?_
  obtain ⟨ex, hex⟩ : ∃ ex, ex = exL.map Place.ds := ⟨_, rfl⟩
  rw [← hex]
  have hexl : exL.length ≤ 1000000000 := by decide
  cbv
  refine .f1z (rowsR hP hex hexl) rfl rfl ?_
  rw [k1]
  cbv
  refine .f1z (listsR hP (a := [[0, 1, 2], [3, 4]]) (b := [[0, 1, 2], [3, 4]]) rfl rfl (by decide) (by decide)) rfl rfl ?_
  rw [decide_eq_true rfl]
  cbv
  refine .f1z (freeR hP (t := [false, true]) hex rfl hexl) rfl rfl ?_
  rw [k2]
  cbv
  refine .f1z (listsR hP (a := [[0], [2], [3, 4]]) (b := [[0], [2], [3, 4]]) rfl rfl (by decide) (by decide)) rfl rfl ?_
  rw [decide_eq_true rfl]
  cbv
  refine .f1z (togetherR hP (c := [2, 0, 1]) hex rfl hexl (by decide)) rfl rfl ?_
  rw [k3]
  cbv
  refine .f1z (togetherR hP (c := [2, 3]) hex rfl hexl (by decide)) rfl rfl ?_
  rw [k4]
  cbv
  refine brk (fun _ => ?_) (fun h => by simp [x_not] at h)
  cbv
  refine .f1z (togetherR hP (c := [3]) hex rfl hexl (by decide)) rfl rfl ?_
  rw [k5]
  cbv
  refine .f1z (singlesR hP (t := []) (c := [0, 1]) hex rfl rfl hexl (by decide)) rfl rfl ?_
  rw [k6]
  cbv
  refine .f1z (intsR hP (a := [2]) (b := [2]) rfl rfl (by decide)) rfl rfl ?_
  rw [decide_eq_true rfl]
  cbv
  refine .f1z (singlesR hP (t := []) (c := [1]) hex rfl rfl hexl (by decide)) rfl rfl ?_
  rw [k7]
  cbv
  refine .f1z (intsR hP (a := [0, 2]) (b := [0, 2]) rfl rfl (by decide)) rfl rfl ?_
  rw [decide_eq_true rfl]
  cbv
  refine .f1z (singlesR hP (t := []) (c := [3]) hex rfl rfl hexl (by decide)) rfl rfl ?_
  rw [k8]
  cbv
  refine .f1z (intsR hP (a := [4]) (b := [4]) rfl rfl (by decide)) rfl rfl ?_
  rw [decide_eq_true rfl]
  cbv
  refine .f1z (singlesR hP (t := []) (c := [3, 4]) hex rfl rfl hexl (by decide)) rfl rfl ?_
  rw [k9]
  cbv
  refine brk (fun _ => ?_) (fun h => by simp [x_eq, x_len] at h)
  cbv
  refine .f1z (togetherR hP (l := arL) (c := [1, 0]) rfl rfl (by decide) (by decide)) rfl rfl ?_
  rw [k10]
  cbv
  refine .f1z (togetherR hP (l := arL) (c := [1, 2]) rfl rfl (by decide) (by decide)) rfl rfl ?_
  rw [k11]
  cbv
  refine brk (fun _ => ?_) (fun h => by simp [x_not] at h)
  cbv
  refine .f1z (rowsR hP (l := arL) rfl (by decide)) rfl rfl ?_
  rw [k12]
  cbv
  refine brk (fun _ => ?_) (fun h => by simp [x_eq, x_len] at h)
  cbv
  refine .f1z (rowsR hP (l := unL) rfl (by decide)) rfl rfl ?_
  rw [k13]
  cbv
  exact hK _ _ (biE (by simp [x_eq, x_len]))
end Go.SX.Runs
