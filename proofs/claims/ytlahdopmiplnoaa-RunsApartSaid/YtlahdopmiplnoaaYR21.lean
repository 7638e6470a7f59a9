/-
  Runs: the seventh law's walk.
-/
import Derived.Test.YtlahdopmiplnoaaYR17
namespace Go.SX.Runs
open Go Go.Proofs
def othL (l : List Place) (t : List Bool) (row : List Int) : List Bool := (List.range l.length).map fun (i : Nat) => takenL t i || !decide ((i : Int) ∈ row)
theorem othL_len (l : List Place) (t : List Bool) (row : List Int) : (othL l t row).length = l.length := by simp [othL]
def mineL (rs : List (List Int)) (row : List Int) : List (List Int) := rs.filter fun r => decide (r.headD 0 ∈ row)
theorem mineL_snoc (rs : List (List Int)) (row r : List Int) : mineL (rs ++ [r]) row = mineL rs row ++ (if decide (r.headD 0 ∈ row) then [r] else []) := by
  rw [mineL, mineL, List.filter_append]
  congr 1
  cases h : decide (r.headD 0 ∈ row) with
  | false => simp only [List.filter_cons, List.filter_nil, h]
  | true => simp only [List.filter_cons, List.filter_nil, h]
def ownL (ls : List Int) (row : List Int) : List Int := ls.filter fun x => decide (x ∈ row)
theorem ownL_snoc (ls : List Int) (row : List Int) (x : Int) : ownL (ls ++ [x]) row = ownL ls row ++ (if decide (x ∈ row) then [x] else []) := by
  rw [ownL, ownL, List.filter_append]
  congr 1
  cases h : decide (x ∈ row) with
  | false => simp only [List.filter_cons, List.filter_nil, h]
  | true => simp only [List.filter_cons, List.filter_nil, h]
structure ApartOk (l : List Place) (t : List Bool) (c row : List Int) : Prop where
  fr : freeI l (othL l t row) = mineL (freeI l t) row
  si : singlesL l (othL l t row) c = ownL (singlesL l t c) row
variable {P : Program} (hP : P = Try.prog)
include hP
set_option maxHeartbeats 8000000 in
theorem law9 {l : List Place} {el : List (List D)} {t : List Bool} {et : List (List D)} {c : List Int} {ec : List (List D)} (w : Int) (hw0 : 0 ≤ w) (hw1 : w ≤ 255) (hel : el = l.map Place.ds) (het : et = t.map dB) (hec : ec = c.map dI)
    (hok : l.length ≤ 60 → orderedP l = true → ∀ row ∈ freeI l [], ApartOk l t c row) : Fn1 P 9 [.d (.sl el), .d (.sl et), .d (.sl ec), .d (.val (.int .u8 w))] (.b true) := by
  refine .walk (hP ▸ d9_ok) fun K hK => ?_
  have la : (el.length : Int) = l.length := by simp [hel]
  cbv
  refine .f1z (headR hP) rfl rfl ?_
  cbv
  refine .f1z (fewR hP hel het hec) rfl rfl ?_
  generalize hf : (decide (l.length ≤ 60) && _) = f
  cbv
  refine brk (fun h => ?_) (fun h => ?_)
  · cbv; exact hK _ _ rfl
  simp only [x_not, Bool.not_eq_false'] at h
  subst h
  have hl60 : l.length ≤ 60 ∧ t.length ≤ 60 ∧ c.length ≤ 60 := by simpa using hf
  obtain ⟨hl60, _, hc60⟩ := hl60
  clear hf
  cbv
  refine .f1z (orderedR hP hel (by omega)) rfl rfl ?_
  generalize ho : orderedP l = o
  cbv
  refine brk (fun h => ?_) (fun h => ?_)
  · cbv; exact hK _ _ rfl
  simp only [x_not, Bool.not_eq_false'] at h
  subst h
  have hR := hok hl60 ho
  clear hok
  have hwl := freeI_len l []
  have hwm : ∀ r ∈ freeI l [], r ≠ [] ∧ r.length ≤ l.length := fun r hr => ⟨freeI_ne hr, freeI_mem hr⟩
  cbv
  refine .f1z (rowsR hP hel (by omega)) rfl rfl ?_
  generalize freeI l [] = ws at hR hwl hwm
  obtain ⟨ew, hew⟩ : ∃ ew, ew = ws.map dL := ⟨_, rfl⟩
  rw [← hew]
  have lw : (ew.length : Int) = ws.length := by simp [hew]
  cbv
  refine brk (fun h => ?_) (fun h => ?_)
  · cbv; exact hK _ _ rfl
  simp only [x_eq, x_len, lw, decide_eq_false_iff_not] at h
  cbv
  refine ⟨by simp only [x_len, lw]; exact h, ?_⟩
  have hww : IntKind.i64.wrap w = w := wr64 (by omega) (by omega)
  have hix0 : 0 ≤ w.tmod ws.length := Int.tmod_nonneg _ hw0
  have hix1 : w.tmod ws.length < ws.length := Int.tmod_lt_of_pos _ (by (first | omega | ((try simp only [nc] at *); (try simp only [Int.ofNat_eq_natCast] at *); omega)))
  cbv
  refine .lists hew (by simp only [x_rem, x_wrap, x_len, lw, hww]; exact hix0) (by simp only [x_rem, x_wrap, x_len, lw, hww]; exact hix1) fun row y hrow hy => ?_
  have hRr := hR row (List.mem_of_getElem? hrow)
  have hrl := (hwm row (List.mem_of_getElem? hrow)).2
  clear hR hix0 hix1 hww h hw0 hw1 hwl hwm hrow
  cbv
  refine .of (m := l.length) (by simp only [x_len, la]) (by omega) (by decide) ?_
  cbv
  refine .intro (ι := Int × List (List D)) (fun k => [.d (.sl el), .d (.sl et), .d (.sl ec), .top, .top, .top, .top, .top, .top, .b true, .top, .d (.sl y), .hd 0, .i k.1] ++ List.replicate 124 .top) (fun k => [.row 4 1 k.2]) (fun env own => (iAt env 13, rAt own 0))
    (fun k => 0 ≤ k.1 ∧ k.1 ≤ l.length ∧ ∃ ml : List Bool, k.2 = ml.map dB ∧ ml.length = l.length ∧ ml.take k.1.toNat = (othL l t row).take k.1.toNat) (fun k => l.length - k.1.toNat)
    (0, (Classical.choice ioEx).1.rep ((Classical.choice ioEx).1.len el) [.val (.bool false)]) ?_ (.mt [0] ?_) fun k hk Kn hKn => ?_
  · refine ⟨Int.le_refl _, Int.natCast_nonneg _, List.replicate l.length false, ?_, by simp, rfl⟩
    simp only [x_rep, x_len, la, List.map_replicate]; rfl
  · (cbv; repeat (refine ⟨rfl, ?_⟩; cbv))
  obtain ⟨k, eo⟩ := k
  obtain ⟨hk0, hk1, ml, hml, hmlen, hmt⟩ := hk
  dsimp only at hk0 hk1 hml hmt
  have lo : eo.length = l.length := by rw [hml, List.length_map, hmlen]
  cbv
  refine brk (fun h => ?_) (fun h => ?_)
  · simp only [x_lt, x_len, la, decide_eq_true_eq] at h
    have hkl : k.toNat < (othL l t row).length := by rw [othL_len]; (first | omega | ((try simp only [nc] at *); (try simp only [Int.ofNat_eq_natCast] at *); omega))
    have hak : (othL l t row)[k.toNat]? = some (takenL t k || !decide (k ∈ row)) := by
      rw [othL, List.getElem?_map, List.getElem?_range (by (first | omega | ((try simp only [nc] at *); (try simp only [Int.ofNat_eq_natCast] at *); omega)))]
      simp only [Option.map_some, Int.toNat_of_nonneg hk0]
    have fin : ∀ b : Bool, b = (takenL t k || !decide (k ∈ row)) → (ml.set k.toNat b).take (k.toNat + 1) = (othL l t row).take (k.toNat + 1) := fun b hb => by
      have hlt : k.toNat < ml.length := by (first | omega | ((try simp only [nc] at *); (try simp only [Int.ofNat_eq_natCast] at *); omega))
      have hg : (ml.set k.toNat b)[k.toNat]? = some b := List.getElem?_set_self hlt
      rw [take_succ_eq hg, take_succ_eq hak, List.take_set_of_le (Nat.le_refl _), hmt, hb]
    cbv
    refine .f1z (takenR hP k het) rfl rfl ?_
    generalize hv : takenL t k = v
    rw [hv] at fin
    cbv
    refine brk (fun h1 => ?_) (fun h1 => ?_)
    · subst h1
      cbv
      refine ⟨hk0, by rw [lo]; exact h, ?_⟩
      cbv
      refine .map hml (by simp only [x_nat]; (first | omega | ((try simp only [nc] at *); (try simp only [Int.ofNat_eq_natCast] at *); omega))) fun y hy => ?_
      cbv
      refine hKn _ _ (.mt [0] ?_) ?_ ?_
      · (cbv; repeat (refine ⟨rfl, ?_⟩; cbv))
      · simp only [iAt, geti, rAt, getr, x_add, x_set, x_nat]
        rw [wr64 (by (first | omega | ((try simp only [nc] at *); (try simp only [Int.ofNat_eq_natCast] at *); omega))) (by (first | omega | ((try simp only [nc] at *); (try simp only [Int.ofNat_eq_natCast] at *); omega))), toNat_succ hk0]
        refine ⟨by (first | omega | ((try simp only [nc] at *); (try simp only [Int.ofNat_eq_natCast] at *); omega)), by (first | omega | ((try simp only [nc] at *); (try simp only [Int.ofNat_eq_natCast] at *); omega)), ml.set k.toNat true, ?_, by rw [List.length_set]; exact hmlen, fin true (by simp)⟩
        rw [hml, List.map_set]; rfl
      · simp only [iAt, geti, x_add]
        rw [wr64 (by (first | omega | ((try simp only [nc] at *); (try simp only [Int.ofNat_eq_natCast] at *); omega))) (by (first | omega | ((try simp only [nc] at *); (try simp only [Int.ofNat_eq_natCast] at *); omega)))]
        (first | omega | ((try simp only [nc] at *); (try simp only [Int.ofNat_eq_natCast] at *); omega))
    · subst h1
      cbv
      refine .f1z (inR hP k hy (by omega)) rfl rfl ?_
      generalize hw : decide (k ∈ row) = w
      simp only [Bool.false_or, hw] at fin
      cbv
      refine ⟨hk0, by rw [lo]; exact h, ?_⟩
      cbv
      refine .map hml (by simp only [x_nat]; (first | omega | ((try simp only [nc] at *); (try simp only [Int.ofNat_eq_natCast] at *); omega))) fun y hy => ?_
      cbv
      refine hKn _ _ (.mt [0] ?_) ?_ ?_
      · (cbv; repeat (refine ⟨rfl, ?_⟩; cbv))
      · simp only [iAt, geti, rAt, getr, x_add, x_set, x_nat, x_not]
        rw [wr64 (by (first | omega | ((try simp only [nc] at *); (try simp only [Int.ofNat_eq_natCast] at *); omega))) (by (first | omega | ((try simp only [nc] at *); (try simp only [Int.ofNat_eq_natCast] at *); omega))), toNat_succ hk0]
        refine ⟨by (first | omega | ((try simp only [nc] at *); (try simp only [Int.ofNat_eq_natCast] at *); omega)), by (first | omega | ((try simp only [nc] at *); (try simp only [Int.ofNat_eq_natCast] at *); omega)), ml.set k.toNat (!w), ?_, by rw [List.length_set]; exact hmlen, fin (!w) rfl⟩
        rw [hml, List.map_set]; rfl
      · simp only [iAt, geti, x_add]
        rw [wr64 (by (first | omega | ((try simp only [nc] at *); (try simp only [Int.ofNat_eq_natCast] at *); omega))) (by (first | omega | ((try simp only [nc] at *); (try simp only [Int.ofNat_eq_natCast] at *); omega)))]
        (first | omega | ((try simp only [nc] at *); (try simp only [Int.ofNat_eq_natCast] at *); omega))
  simp only [x_lt, x_len, la, decide_eq_false_iff_not] at h
  have hal : (othL l t row).length = l.length := othL_len _ _ _
  have heo : eo = (othL l t row).map dB := by
    rw [List.take_of_length_le (by (first | omega | ((try simp only [nc] at *); (try simp only [Int.ofNat_eq_natCast] at *); omega))), List.take_of_length_le (by (first | omega | ((try simp only [nc] at *); (try simp only [Int.ofNat_eq_natCast] at *); omega)))] at hmt
    rw [hml, hmt]
  clear hml hmt hmlen hKn lo h hk0 hk1
  have hfl := freeI_len l t
  have hfm : ∀ r ∈ freeI l t, r ≠ [] ∧ r.length ≤ l.length := fun r hr => ⟨freeI_ne hr, freeI_mem hr⟩
  have hfr := hRr.fr
  have hsi := hRr.si
  clear hRr
  have hfR := freeR hP hel heo (by omega)
  have hsR := singlesR hP (t := othL l t row) (c := c) hel heo hec (by omega) (by omega)
  rw [hfr] at hfR
  rw [hsi] at hsR
  have hsl : (singlesL l t c).length ≤ 60 := Nat.le_trans (leftL_len _ _) (Nat.le_trans (freeI_len _ _) hl60)
  have hsR0 := singlesR hP (t := t) (c := c) hel het hec (by omega) (by omega)
  generalize singlesL l t c = ls at hsl hsR hsR0 hsi
  obtain ⟨es, hes⟩ : ∃ es, es = ls.map dI := ⟨_, rfl⟩
  have les : (es.length : Int) = ls.length := by simp [hes]
  rw [← hes] at hsR0
  clear hfr hsi
  cbv
  refine .f1z (freeR hP hel het (by omega)) rfl rfl ?_
  generalize freeI l t = rs at hfl hfm hfR
  obtain ⟨er, her⟩ : ∃ er, er = rs.map dL := ⟨_, rfl⟩
  rw [← her]
  have lr : (er.length : Int) = rs.length := by simp [her]
  cbv
  refine .intro (ι := List (List D) × Int) (fun k => [.d (.sl el), .d (.sl et), .d (.sl ec), .top, .top, .top, .top, .top, .top, .b true, .top, .d (.sl y), .hd 0, .top, .d (.sl er), .hd 1, .i k.2] ++ List.replicate 121 .top) (fun k => [.row 4 1 eo, .row 24 1 k.1]) (fun env own => (rAt own (hAt env 15), iAt env 16))
    (fun k => 0 ≤ k.2 ∧ k.2 ≤ rs.length ∧ k.1 = (mineL (rs.take k.2.toNat) row).map dL) (fun k => rs.length - k.2.toNat) ([], 0) ?_ (.nilrow 15 24 1 rfl (.mt [0, 1] ?_)) fun k hk Kn hKn => ?_
  · exact ⟨Int.le_refl _, Int.natCast_nonneg _, rfl⟩
  · (cbv; repeat (refine ⟨rfl, ?_⟩; cbv))
  obtain ⟨em, k⟩ := k
  obtain ⟨hk0, hk1, hem⟩ := hk
  dsimp only at hk0 hk1 hem
  have heml : em.length ≤ 1000000000 := by
    have : (mineL (rs.take k.toNat) row).length ≤ (rs.take k.toNat).length := List.length_filter_le _ _
    rw [hem, List.length_map]; rw [List.length_take] at this; omega
  cbv
  refine brk (fun h => ?_) (fun h => ?_)
  · simp only [x_lt, x_len, lr, decide_eq_true_eq] at h
    cbv
    refine .lists her hk0 (by (first | omega | ((try simp only [nc] at *); (try simp only [Int.ofNat_eq_natCast] at *); omega))) fun r y1 hr hy1 => ?_
    obtain ⟨hr1, hr2⟩ := hfm r (List.mem_of_getElem? hr)
    have hr3 : 0 < r.length := List.length_pos_iff.2 hr1
    have ly : (y1.length : Int) = r.length := by simp [hy1]
    have fin : (mineL (rs.take (k.toNat + 1)) row).map dL = em ++ (if decide (r.headD 0 ∈ row) then [r] else []).map dL := by
      rw [take_succ_eq hr, mineL_snoc, List.map_append, hem]
    cbv
    refine brk (fun h1 => ?_) (fun h1 => ?_)
    · simp only [x_lt, x_len, ly, decide_eq_true_eq] at h1
      cbv
      refine .lists her hk0 (by (first | omega | ((try simp only [nc] at *); (try simp only [Int.ofNat_eq_natCast] at *); omega))) fun r' y2 hr' hy2 => ?_
      rw [hr] at hr'; cases hr'
      cbv
      refine .map hy2 (Int.le_refl _) (by (first | omega | ((try simp only [nc] at *); (try simp only [Int.ofNat_eq_natCast] at *); omega))) (fun _ => rfl) fun x hx => ?_
      have hh := head_of hx
      rw [hh] at fin
      cbv
      refine .f1z (inR hP x hy (by omega)) rfl rfl ?_
      generalize decide (x ∈ row) = b at fin
      cbv
      refine brk (fun h2 => ?_) (fun h2 => ?_)
      · subst h2
        cbv
        refine .lists her hk0 (by (first | omega | ((try simp only [nc] at *); (try simp only [Int.ofNat_eq_natCast] at *); omega))) fun r' y3 hr' hy3 => ?_
        rw [hr] at hr'; cases hr'
        cbv
        refine .one rfl heml (by decide) ?_
        cbv
        refine hKn _ _ (.mt [0, 3] ?_) ?_ ?_
        · (cbv; repeat (refine ⟨rfl, ?_⟩; cbv))
        · simp only [iAt, geti, hAt, rAt, getr, x_add, x_app]
          rw [wr64 (by (first | omega | ((try simp only [nc] at *); (try simp only [Int.ofNat_eq_natCast] at *); omega))) (by (first | omega | ((try simp only [nc] at *); (try simp only [Int.ofNat_eq_natCast] at *); omega))), toNat_succ hk0]
          refine ⟨by (first | omega | ((try simp only [nc] at *); (try simp only [Int.ofNat_eq_natCast] at *); omega)), by (first | omega | ((try simp only [nc] at *); (try simp only [Int.ofNat_eq_natCast] at *); omega)), ?_⟩
          rw [fin, hy3]; rfl
        · simp only [iAt, geti, x_add]
          rw [wr64 (by (first | omega | ((try simp only [nc] at *); (try simp only [Int.ofNat_eq_natCast] at *); omega))) (by (first | omega | ((try simp only [nc] at *); (try simp only [Int.ofNat_eq_natCast] at *); omega)))]
          (first | omega | ((try simp only [nc] at *); (try simp only [Int.ofNat_eq_natCast] at *); omega))
      · subst h2
        cbv
        refine hKn _ _ (.mt [0, 1] ?_) ?_ ?_
        · (cbv; repeat (refine ⟨rfl, ?_⟩; cbv))
        · simp only [iAt, geti, hAt, rAt, getr, x_add]
          rw [wr64 (by (first | omega | ((try simp only [nc] at *); (try simp only [Int.ofNat_eq_natCast] at *); omega))) (by (first | omega | ((try simp only [nc] at *); (try simp only [Int.ofNat_eq_natCast] at *); omega))), toNat_succ hk0]
          refine ⟨by (first | omega | ((try simp only [nc] at *); (try simp only [Int.ofNat_eq_natCast] at *); omega)), by (first | omega | ((try simp only [nc] at *); (try simp only [Int.ofNat_eq_natCast] at *); omega)), ?_⟩
          rw [fin]; exact (List.append_nil _).symm
        · simp only [iAt, geti, x_add]
          rw [wr64 (by (first | omega | ((try simp only [nc] at *); (try simp only [Int.ofNat_eq_natCast] at *); omega))) (by (first | omega | ((try simp only [nc] at *); (try simp only [Int.ofNat_eq_natCast] at *); omega)))]
          (first | omega | ((try simp only [nc] at *); (try simp only [Int.ofNat_eq_natCast] at *); omega))
    · cbv; simp only [x_lt, x_len, ly, decide_eq_false_iff_not] at h1; exfalso; (first | omega | ((try simp only [nc] at *); (try simp only [Int.ofNat_eq_natCast] at *); omega))
  simp only [x_lt, x_len, lr, decide_eq_false_iff_not] at h
  rw [List.take_of_length_le (by (first | omega | ((try simp only [nc] at *); (try simp only [Int.ofNat_eq_natCast] at *); omega)))] at hem
  have hml : (mineL rs row).length ≤ 60 := by
    have : (mineL rs row).length ≤ rs.length := List.length_filter_le _ _
    omega
  have hmm : ∀ r ∈ mineL rs row, r.length ≤ 60 := fun r hr => by
    have := (hfm r (List.mem_filter.1 hr).1).2
    omega
  generalize mineL rs row = ms at hem hml hmm hfR
  rw [← hem] at hfR
  clear hKn hk0 hk1 h heml hfm her lr hfl
  cbv
  refine .f1z hsR0 rfl rfl ?_
  cbv
  refine .intro (ι := List (List D) × Int) (fun k => [.d (.sl el), .d (.sl et), .d (.sl ec), .top, .top, .top, .top, .top, .top, .b true, .top, .d (.sl y), .hd 0, .top, .top, .hd 1, .top, .d (.sl es), .hd 2, .i k.2] ++ List.replicate 118 .top) (fun k => [.row 4 1 eo, .row 24 1 em, .row 3 1 k.1]) (fun env own => (rAt own (hAt env 18), iAt env 19))
    (fun k => 0 ≤ k.2 ∧ k.2 ≤ ls.length ∧ k.1 = (ownL (ls.take k.2.toNat) row).map dI) (fun k => ls.length - k.2.toNat) ([], 0) ?_ (.nilrow 18 3 1 rfl (.mt [0, 1, 2] ?_)) fun k hk Kn hKn => ?_
  · exact ⟨Int.le_refl _, Int.natCast_nonneg _, rfl⟩
  · (cbv; repeat (refine ⟨rfl, ?_⟩; cbv))
  obtain ⟨eq, k⟩ := k
  obtain ⟨hk0, hk1, heq⟩ := hk
  dsimp only at hk0 hk1 heq
  have heql : eq.length ≤ 1000000000 := by
    have : (ownL (ls.take k.toNat) row).length ≤ (ls.take k.toNat).length := List.length_filter_le _ _
    rw [heq, List.length_map]; rw [List.length_take] at this; omega
  cbv
  refine brk (fun h => ?_) (fun h => ?_)
  · simp only [x_lt, x_len, les, decide_eq_true_eq] at h
    cbv
    refine .map hes hk0 (by (first | omega | ((try simp only [nc] at *); (try simp only [Int.ofNat_eq_natCast] at *); omega))) (fun _ => rfl) fun x hx => ?_
    have fin : (ownL (ls.take (k.toNat + 1)) row).map dI = eq ++ (if decide (x ∈ row) then [x] else []).map dI := by
      rw [take_succ_eq hx, ownL_snoc, List.map_append, heq]
    cbv
    refine .f1z (inR hP x hy (by omega)) rfl rfl ?_
    generalize decide (x ∈ row) = b at fin
    cbv
    refine brk (fun h2 => ?_) (fun h2 => ?_)
    · subst h2
      cbv
      refine .map hes hk0 (by (first | omega | ((try simp only [nc] at *); (try simp only [Int.ofNat_eq_natCast] at *); omega))) (fun _ => rfl) fun x' hx' => ?_
      rw [hx] at hx'; cases hx'
      cbv
      refine .one rfl heql (by decide) ?_
      cbv
      refine hKn _ _ (.mt [0, 1, 4] ?_) ?_ ?_
      · (cbv; repeat (refine ⟨rfl, ?_⟩; cbv))
      · simp only [iAt, geti, hAt, rAt, getr, x_add, x_app]
        rw [wr64 (by (first | omega | ((try simp only [nc] at *); (try simp only [Int.ofNat_eq_natCast] at *); omega))) (by (first | omega | ((try simp only [nc] at *); (try simp only [Int.ofNat_eq_natCast] at *); omega))), toNat_succ hk0]
        refine ⟨by (first | omega | ((try simp only [nc] at *); (try simp only [Int.ofNat_eq_natCast] at *); omega)), by (first | omega | ((try simp only [nc] at *); (try simp only [Int.ofNat_eq_natCast] at *); omega)), ?_⟩
        rw [fin]; rfl
      · simp only [iAt, geti, x_add]
        rw [wr64 (by (first | omega | ((try simp only [nc] at *); (try simp only [Int.ofNat_eq_natCast] at *); omega))) (by (first | omega | ((try simp only [nc] at *); (try simp only [Int.ofNat_eq_natCast] at *); omega)))]
        (first | omega | ((try simp only [nc] at *); (try simp only [Int.ofNat_eq_natCast] at *); omega))
    · subst h2
      cbv
      refine hKn _ _ (.mt [0, 1, 2] ?_) ?_ ?_
      · (cbv; repeat (refine ⟨rfl, ?_⟩; cbv))
      · simp only [iAt, geti, hAt, rAt, getr, x_add]
        rw [wr64 (by (first | omega | ((try simp only [nc] at *); (try simp only [Int.ofNat_eq_natCast] at *); omega))) (by (first | omega | ((try simp only [nc] at *); (try simp only [Int.ofNat_eq_natCast] at *); omega))), toNat_succ hk0]
        refine ⟨by (first | omega | ((try simp only [nc] at *); (try simp only [Int.ofNat_eq_natCast] at *); omega)), by (first | omega | ((try simp only [nc] at *); (try simp only [Int.ofNat_eq_natCast] at *); omega)), ?_⟩
        rw [fin]; exact (List.append_nil _).symm
      · simp only [iAt, geti, x_add]
        rw [wr64 (by (first | omega | ((try simp only [nc] at *); (try simp only [Int.ofNat_eq_natCast] at *); omega))) (by (first | omega | ((try simp only [nc] at *); (try simp only [Int.ofNat_eq_natCast] at *); omega)))]
        (first | omega | ((try simp only [nc] at *); (try simp only [Int.ofNat_eq_natCast] at *); omega))
  simp only [x_lt, x_len, les, decide_eq_false_iff_not] at h
  rw [List.take_of_length_le (by (first | omega | ((try simp only [nc] at *); (try simp only [Int.ofNat_eq_natCast] at *); omega)))] at heq
  have hql : (ownL ls row).length ≤ 60 := by
    have : (ownL ls row).length ≤ ls.length := List.length_filter_le _ _
    omega
  generalize ownL ls row = qs at heq hql hsR
  rw [← heq] at hsR
  clear hKn hk0 hk1 h heql hes les hsR0
  cbv
  refine .f1z hfR rfl rfl ?_
  cbv
  refine .f1z (listsR hP (a := ms) (b := ms) hem hem (by omega) (fun r hr => by have := hmm r hr; omega)) rfl rfl ?_
  rw [decide_eq_true rfl]
  cbv
  refine .f1z hsR rfl rfl ?_
  cbv
  refine .f1z (intsR hP (a := qs) (b := qs) heq heq (by omega)) rfl rfl ?_
  rw [decide_eq_true rfl]
  cbv
  exact hK _ _ rfl
end Go.SX.Runs
