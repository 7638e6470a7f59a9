/-
  Runs: the runs that are free.
-/
import Derived.Test.YtlahdopmiplnoaaYR5
set_option linter.unusedSimpArgs false
set_option linter.unusedVariables false
set_option linter.unusedSectionVars false
namespace Go.SX.Runs
open Go Go.Proofs
def runI (g : List (Place × Nat)) : List Int := g.map fun x => (x.2 : Int)
def allL (l : List Place) : List (Place × Nat) := if seatsOk l then seatsL l else []
def freeI (l : List Place) (t : List Bool) : List (List Int) := (divideL (freeL t (allL l))).map runI
theorem divideL_len (fl : List (Place × Nat)) : (divideL fl).length ≤ fl.length := (divTo_le fl fl.length).2
theorem divTo_mem (fl : List (Place × Nat)) (k : Nat) : ∀ g ∈ (divTo fl k).1, g.length ≤ fl.length := by
  induction k with
  | zero => intro g hg; simp [divTo] at hg
  | succ k ih =>
    intro g hg
    rw [divTo_succ, divStep] at hg
    split at hg
    · rcases List.mem_append.1 hg with h | h
      · exact ih g h
      · rw [List.mem_singleton.1 h, List.length_drop, List.length_take]; omega
    · exact ih g hg
theorem divideL_mem {fl g : List (Place × Nat)} (h : g ∈ divideL fl) : g.length ≤ fl.length := divTo_mem fl _ g h
variable {P : Program} (hP : P = Try.prog)
include hP
theorem deleteNilR {t : List Bool} {et : List (List D)} (het : et = t.map dB) : Fn1 P 30 [.d (.sl []), .clo (.func 31) [] [.fp [.sl et]]] (.d (.sl [])) := by
  refine .walkD (hP ▸ d30_ok) fun K hK => ?_
  cbv
  refine .f1 (indexR hP het (sl := []) rfl (by simp)) rfl rfl ?_
  generalize hv : idxI _ = v
  have hv1 : v = -1 := hv.symm
  cbv
  refine brk (fun h => ?_) (fun h => ?_)
  · cbv
    exact hK _ _ rfl
  · simp only [x_eq, hv1, decide_true] at h
    cases h
theorem freeR {l : List Place} {el : List (List D)} {t : List Bool} {et : List (List D)} (hel : el = l.map Place.ds) (het : et = t.map dB) (hl : l.length ≤ 1000000000) :
    Fn1 P 15 [.d (.sl el), .d (.sl et)] (.d (.sl ((freeI l t).map dL))) := by
  refine .walkD (hP ▸ d15_ok) fun K hK => ?_
  generalize hfl : freeL t (allL l) = fl
  have hfll : fl.length ≤ 1000000000 := by
    have h1 := freeL_len t (allL l)
    have h2 : (allL l).length ≤ l.length := by
      rw [allL]; split
      · exact seatsL_len l
      · simp
    rw [hfl] at h1; omega
  obtain ⟨ef, hef⟩ : ∃ ef, ef = fl.map seatD := ⟨_, rfl⟩
  have hfi : freeI l t = (divideL fl).map runI := by rw [freeI, hfl]
  cbv
  refine .own (SCall.frame (seatsR0 hP hel hl) rfl) fun sv own' h => ?_
  obtain ⟨sv0, own0, h0, rfl, rfl⟩ := h
  rcases h0 with ⟨h1, rfl, rfl⟩ | ⟨h1, rfl, es0, rfl⟩
  · have hal : freeL t (seatsL l) = fl := by rw [← hfl, allL, if_pos h1]
    generalize hes : (seatsL l).map seatD = es
    cbv
    refine .embP [0] [1] (deleteR hP het hes.symm (by have := seatsL_len l; omega)) ?_ fun sv0 own0' h _ => ?_
    · (cbv; repeat (refine ⟨rfl, ?_⟩; cbv))
    obtain ⟨rfl, rfl⟩ := h
    rw [hal, ← hef]
    cbv
    refine .f1 (divideR hP hef hfll) rfl rfl ?_
    obtain ⟨ed, hdv⟩ : ∃ ed, ed = (divideL fl).map runD := ⟨_, rfl⟩
    rw [← hdv]
    cbv
    refine .intro (ι := List (List D) × Int × Int) (fun k => List.replicate 8 .top ++ [.hd 0] ++ List.replicate 14 .top ++ [.d (.sl ed), .i k.2.1, .i k.2.2] ++ List.replicate 21 .top) (fun k => [.row 24 1 k.1]) (fun env own => (rAt own (hAt env 8), iAt env 24, iAt env 25))
      (fun k => k.2.1 = (divideL fl).length ∧ 0 ≤ k.2.2 ∧ k.2.2 ≤ (divideL fl).length ∧ k.1 = (((divideL fl).take k.2.2.toNat).map runI).map dL) (fun k => (divideL fl).length - k.2.2.toNat)
      ([], (Classical.choice ioEx).1.len ed, 0) ?_ (.nilrow 8 24 1 rfl (.mt [2] ?_)) fun k hk Kn hKn => ?_
    · exact ⟨by simp only [x_len, hdv, List.length_map], Int.le_refl _, Int.natCast_nonneg _, rfl⟩
    · (cbv; repeat (refine ⟨rfl, ?_⟩; cbv))
    obtain ⟨eo, n, k⟩ := k
    obtain ⟨hn, hk0, hk1, ho⟩ := hk
    dsimp only at hn hk0 hk1 ho
    have hdl := divideL_len fl
    have hol : eo.length ≤ 1000000000 := by
      rw [ho, List.length_map, List.length_map, List.length_take]; omega
    cbv
    refine brk (fun h => ?_) (fun h => ?_)
    · simp only [x_lt, hn, decide_eq_true_eq] at h
      cbv
      refine .map hdv hk0 (by ((try simp only [nc] at *); (try simp only [Int.ofNat_eq_natCast] at *); omega)) (fun _ => rfl) fun g hg => ?_
      have hgl := divideL_mem (List.mem_of_getElem? hg)
      unfold runD
      obtain ⟨eg, hge⟩ : ∃ eg, eg = g.map seatD := ⟨_, rfl⟩
      rw [← hge]
      cbv
      refine .intro (ι := List (List D) × Int × Int) (fun q => List.replicate 8 .top ++ [.hd 0, .top, .top, .hd 1] ++ List.replicate 11 .top ++ [.d (.sl ed), .i n, .i k] ++ List.replicate 3 .top ++ [.d (.sl eg), .i q.2.1, .i q.2.2] ++ List.replicate 15 .top) (fun q => [.row 24 1 eo, .row 3 1 q.1]) (fun env own => (rAt own (hAt env 11), iAt env 30, iAt env 31))
        (fun q => q.2.1 = g.length ∧ 0 ≤ q.2.2 ∧ q.2.2 ≤ g.length ∧ q.1 = (runI (g.take q.2.2.toNat)).map dI) (fun q => g.length - q.2.2.toNat)
        ([], (Classical.choice ioEx).1.len eg, 0) ?_ (.nilrow 11 3 1 rfl (.mt [0, 1] ?_)) fun q hq Kn2 hKn2 => ?_
      · exact ⟨by simp only [x_len, hge, List.length_map], Int.le_refl _, Int.natCast_nonneg _, rfl⟩
      · (cbv; repeat (refine ⟨rfl, ?_⟩; cbv))
      obtain ⟨ei, n2, k2⟩ := q
      obtain ⟨hn2, hq0, hq1, hei⟩ := hq
      dsimp only at hn2 hq0 hq1 hei
      have heil : ei.length ≤ 1000000000 := by
        rw [hei, List.length_map, runI, List.length_map, List.length_take]; omega
      cbv
      refine brk (fun h2 => ?_) (fun h2 => ?_)
      · simp only [x_lt, hn2, decide_eq_true_eq] at h2
        cbv
        refine .map hge hq0 (by ((try simp only [nc] at *); (try simp only [Int.ofNat_eq_natCast] at *); omega)) (fun _ => rfl) fun x hx => ?_
        obtain ⟨x, xi⟩ := x
        cbv
        refine .one rfl heil (by decide) ?_
        cbv
        refine hKn2 _ _ (.mt [0, 4] ?_) ?_ ?_
        · (cbv; repeat (refine ⟨rfl, ?_⟩; cbv))
        · simp only [iAt, geti, hAt, rAt, getr, x_add, x_app]
          rw [wr64 (by ((try simp only [nc] at *); (try simp only [Int.ofNat_eq_natCast] at *); omega)) (by ((try simp only [nc] at *); (try simp only [Int.ofNat_eq_natCast] at *); omega)), toNat_succ hq0, take_succ_eq hx]
          refine ⟨hn2, by ((try simp only [nc] at *); (try simp only [Int.ofNat_eq_natCast] at *); omega), by ((try simp only [nc] at *); (try simp only [Int.ofNat_eq_natCast] at *); omega), ?_⟩
          rw [runI, List.map_append, List.map_append, hei]
          rfl
        · simp only [iAt, geti, x_add]
          rw [wr64 (by ((try simp only [nc] at *); (try simp only [Int.ofNat_eq_natCast] at *); omega)) (by ((try simp only [nc] at *); (try simp only [Int.ofNat_eq_natCast] at *); omega))]
          ((try simp only [nc] at *); (try simp only [Int.ofNat_eq_natCast] at *); omega)
      · simp only [x_lt, hn2, decide_eq_false_iff_not] at h2
        rw [List.take_of_length_le (by ((try simp only [nc] at *); (try simp only [Int.ofNat_eq_natCast] at *); omega))] at hei
        cbv
        refine .one rfl hol (by decide) ?_
        cbv
        refine hKn _ _ (.mt [3] ?_) ?_ ?_
        · (cbv; repeat (refine ⟨rfl, ?_⟩; cbv))
        · simp only [iAt, geti, hAt, rAt, getr, x_add, x_app]
          rw [wr64 (by ((try simp only [nc] at *); (try simp only [Int.ofNat_eq_natCast] at *); omega)) (by ((try simp only [nc] at *); (try simp only [Int.ofNat_eq_natCast] at *); omega)), toNat_succ hk0, take_succ_eq hg]
          refine ⟨hn, by ((try simp only [nc] at *); (try simp only [Int.ofNat_eq_natCast] at *); omega), by ((try simp only [nc] at *); (try simp only [Int.ofNat_eq_natCast] at *); omega), ?_⟩
          rw [List.map_append, List.map_append, ho, hei]
          rfl
        · simp only [iAt, geti, x_add]
          rw [wr64 (by ((try simp only [nc] at *); (try simp only [Int.ofNat_eq_natCast] at *); omega)) (by ((try simp only [nc] at *); (try simp only [Int.ofNat_eq_natCast] at *); omega))]
          ((try simp only [nc] at *); (try simp only [Int.ofNat_eq_natCast] at *); omega)
    · simp only [x_lt, hn, decide_eq_false_iff_not] at h
      rw [List.take_of_length_le (by ((try simp only [nc] at *); (try simp only [Int.ofNat_eq_natCast] at *); omega))] at ho
      cbv
      refine hK _ _ (slE ?_)
      rw [hfi]; exact ho
  · have hal : fl = [] := by rw [← hfl, allL, if_neg (by rw [h1]; simp)]; rfl
    have hef0 : ef = [] := by rw [hef, hal]; rfl
    cbv
    refine .frzP [0] ((deleteNilR hP het).fn rfl rfl) fun sv0 own0' h => ?_
    obtain ⟨rfl, rfl⟩ := h
    rw [← hef0]
    cbv
    refine .f1 (divideR hP hef hfll) rfl rfl ?_
    obtain ⟨ed, hdv⟩ : ∃ ed, ed = (divideL fl).map runD := ⟨_, rfl⟩
    rw [← hdv]
    cbv
    refine .intro (ι := List (List D) × Int × Int) (fun k => List.replicate 8 .top ++ [.hd 0] ++ List.replicate 14 .top ++ [.d (.sl ed), .i k.2.1, .i k.2.2] ++ List.replicate 21 .top) (fun k => [.row 24 1 k.1]) (fun env own => (rAt own (hAt env 8), iAt env 24, iAt env 25))
      (fun k => k.2.1 = (divideL fl).length ∧ 0 ≤ k.2.2 ∧ k.2.2 ≤ (divideL fl).length ∧ k.1 = (((divideL fl).take k.2.2.toNat).map runI).map dL) (fun k => (divideL fl).length - k.2.2.toNat)
      ([], (Classical.choice ioEx).1.len ed, 0) ?_ (.nilrow 8 24 1 rfl (.mt [2] ?_)) fun k hk Kn hKn => ?_
    · exact ⟨by simp only [x_len, hdv, List.length_map], Int.le_refl _, Int.natCast_nonneg _, rfl⟩
    · (cbv; repeat (refine ⟨rfl, ?_⟩; cbv))
    obtain ⟨eo, n, k⟩ := k
    obtain ⟨hn, hk0, hk1, ho⟩ := hk
    dsimp only at hn hk0 hk1 ho
    have hdl := divideL_len fl
    have hol : eo.length ≤ 1000000000 := by
      rw [ho, List.length_map, List.length_map, List.length_take]; omega
    cbv
    refine brk (fun h => ?_) (fun h => ?_)
    · simp only [x_lt, hn, decide_eq_true_eq] at h
      cbv
      refine .map hdv hk0 (by ((try simp only [nc] at *); (try simp only [Int.ofNat_eq_natCast] at *); omega)) (fun _ => rfl) fun g hg => ?_
      have hgl := divideL_mem (List.mem_of_getElem? hg)
      unfold runD
      obtain ⟨eg, hge⟩ : ∃ eg, eg = g.map seatD := ⟨_, rfl⟩
      rw [← hge]
      cbv
      refine .intro (ι := List (List D) × Int × Int) (fun q => List.replicate 8 .top ++ [.hd 0, .top, .top, .hd 1] ++ List.replicate 11 .top ++ [.d (.sl ed), .i n, .i k] ++ List.replicate 3 .top ++ [.d (.sl eg), .i q.2.1, .i q.2.2] ++ List.replicate 15 .top) (fun q => [.row 24 1 eo, .row 3 1 q.1]) (fun env own => (rAt own (hAt env 11), iAt env 30, iAt env 31))
        (fun q => q.2.1 = g.length ∧ 0 ≤ q.2.2 ∧ q.2.2 ≤ g.length ∧ q.1 = (runI (g.take q.2.2.toNat)).map dI) (fun q => g.length - q.2.2.toNat)
        ([], (Classical.choice ioEx).1.len eg, 0) ?_ (.nilrow 11 3 1 rfl (.mt [0, 1] ?_)) fun q hq Kn2 hKn2 => ?_
      · exact ⟨by simp only [x_len, hge, List.length_map], Int.le_refl _, Int.natCast_nonneg _, rfl⟩
      · (cbv; repeat (refine ⟨rfl, ?_⟩; cbv))
      obtain ⟨ei, n2, k2⟩ := q
      obtain ⟨hn2, hq0, hq1, hei⟩ := hq
      dsimp only at hn2 hq0 hq1 hei
      have heil : ei.length ≤ 1000000000 := by
        rw [hei, List.length_map, runI, List.length_map, List.length_take]; omega
      cbv
      refine brk (fun h2 => ?_) (fun h2 => ?_)
      · simp only [x_lt, hn2, decide_eq_true_eq] at h2
        cbv
        refine .map hge hq0 (by ((try simp only [nc] at *); (try simp only [Int.ofNat_eq_natCast] at *); omega)) (fun _ => rfl) fun x hx => ?_
        obtain ⟨x, xi⟩ := x
        cbv
        refine .one rfl heil (by decide) ?_
        cbv
        refine hKn2 _ _ (.mt [0, 4] ?_) ?_ ?_
        · (cbv; repeat (refine ⟨rfl, ?_⟩; cbv))
        · simp only [iAt, geti, hAt, rAt, getr, x_add, x_app]
          rw [wr64 (by ((try simp only [nc] at *); (try simp only [Int.ofNat_eq_natCast] at *); omega)) (by ((try simp only [nc] at *); (try simp only [Int.ofNat_eq_natCast] at *); omega)), toNat_succ hq0, take_succ_eq hx]
          refine ⟨hn2, by ((try simp only [nc] at *); (try simp only [Int.ofNat_eq_natCast] at *); omega), by ((try simp only [nc] at *); (try simp only [Int.ofNat_eq_natCast] at *); omega), ?_⟩
          rw [runI, List.map_append, List.map_append, hei]
          rfl
        · simp only [iAt, geti, x_add]
          rw [wr64 (by ((try simp only [nc] at *); (try simp only [Int.ofNat_eq_natCast] at *); omega)) (by ((try simp only [nc] at *); (try simp only [Int.ofNat_eq_natCast] at *); omega))]
          ((try simp only [nc] at *); (try simp only [Int.ofNat_eq_natCast] at *); omega)
      · simp only [x_lt, hn2, decide_eq_false_iff_not] at h2
        rw [List.take_of_length_le (by ((try simp only [nc] at *); (try simp only [Int.ofNat_eq_natCast] at *); omega))] at hei
        cbv
        refine .one rfl hol (by decide) ?_
        cbv
        refine hKn _ _ (.mt [3] ?_) ?_ ?_
        · (cbv; repeat (refine ⟨rfl, ?_⟩; cbv))
        · simp only [iAt, geti, hAt, rAt, getr, x_add, x_app]
          rw [wr64 (by ((try simp only [nc] at *); (try simp only [Int.ofNat_eq_natCast] at *); omega)) (by ((try simp only [nc] at *); (try simp only [Int.ofNat_eq_natCast] at *); omega)), toNat_succ hk0, take_succ_eq hg]
          refine ⟨hn, by ((try simp only [nc] at *); (try simp only [Int.ofNat_eq_natCast] at *); omega), by ((try simp only [nc] at *); (try simp only [Int.ofNat_eq_natCast] at *); omega), ?_⟩
          rw [List.map_append, List.map_append, ho, hei]
          rfl
        · simp only [iAt, geti, x_add]
          rw [wr64 (by ((try simp only [nc] at *); (try simp only [Int.ofNat_eq_natCast] at *); omega)) (by ((try simp only [nc] at *); (try simp only [Int.ofNat_eq_natCast] at *); omega))]
          ((try simp only [nc] at *); (try simp only [Int.ofNat_eq_natCast] at *); omega)
    · simp only [x_lt, hn, decide_eq_false_iff_not] at h
      rw [List.take_of_length_le (by ((try simp only [nc] at *); (try simp only [Int.ofNat_eq_natCast] at *); omega))] at ho
      cbv
      refine hK _ _ (slE ?_)
      rw [hfi]; exact ho
end Go.SX.Runs
/-
  Runs: rows, what is contained, what is taken after a choice.
-/
namespace Go.SX.Runs
open Go Go.Proofs
variable {P : Program} (hP : P = Try.prog)
include hP
theorem rowsR {l : List Place} {el : List (List D)} (hel : el = l.map Place.ds) (hl : l.length ≤ 1000000000) :
    Fn1 P 13 [.d (.sl el)] (.d (.sl ((freeI l []).map dL))) := by
  refine .walkD (hP ▸ d13_ok) fun K hK => ?_
  cbv
  refine .f1z (freeR hP hel (t := []) rfl hl) rfl rfl ?_
  generalize hr : (freeI l []).map dL = r
  cbv
  exact hK _ _ (slE hr.symm)

theorem fewR {l : List Place} {el : List (List D)} {t : List Bool} {et : List (List D)} {c : List Int} {ec : List (List D)} (hel : el = l.map Place.ds) (het : et = t.map dB) (hec : ec = c.map dI) :
    Fn1 P 11 [.d (.sl el), .d (.sl et), .d (.sl ec)] (.b (decide (l.length ≤ 60) && (decide (t.length ≤ 60) && decide (c.length ≤ 60)))) := by
  refine .walk (hP ▸ d11_ok) fun K hK => ?_
  have l1 : (el.length : Int) = l.length := by simp [hel]
  have l2 : (et.length : Int) = t.length := by simp [het]
  have l3 : (ec.length : Int) = c.length := by simp [hec]
  cbv
  refine brk (fun h => ?_) (fun h => ?_)
  · simp only [x_le, x_len, l1, decide_eq_true_eq] at h
    cbv
    refine brk (fun h2 => ?_) (fun h2 => ?_)
    · simp only [x_le, x_len, l2, decide_eq_true_eq] at h2
      cbv
      refine hK _ _ (biE ?_)
      simp only [x_le, x_len, l3]
      rw [decide_eq_true (show l.length ≤ 60 by ((try simp only [nc] at *); (try simp only [Int.ofNat_eq_natCast] at *); omega)), decide_eq_true (show t.length ≤ 60 by ((try simp only [nc] at *); (try simp only [Int.ofNat_eq_natCast] at *); omega))]
      simp only [Bool.true_and, decide_eq_decide]
      ((try simp only [nc] at *); (try simp only [Int.ofNat_eq_natCast] at *); omega)
    · simp only [x_le, x_len, l2, decide_eq_false_iff_not] at h2
      cbv
      refine hK _ _ (biE ?_)
      rw [decide_eq_false (show ¬ t.length ≤ 60 by ((try simp only [nc] at *); (try simp only [Int.ofNat_eq_natCast] at *); omega))]; simp
  · simp only [x_le, x_len, l1, decide_eq_false_iff_not] at h
    cbv
    refine hK _ _ (biE ?_)
    rw [decide_eq_false (show ¬ l.length ≤ 60 by ((try simp only [nc] at *); (try simp only [Int.ofNat_eq_natCast] at *); omega))]; simp

theorem indexIR {a : List Int} {ea : List (List D)} (n : Int) (hea : ea = a.map dI) (ha : a.length ≤ 1000000000) : Fn1 P 47 [.d (.sl ea), .i n] (.i (idxI (a.findIdx? fun x => n == x))) := by
  refine .walk (hP ▸ d47_ok) fun K hK => ?_
  have la : (ea.length : Int) = a.length := by simp [hea]
  cbv
  refine .intro (ι := Int × Int) (fun k => [.d (.sl ea), .i n, .top, .top, .top, .top, .top, .i k.1, .i k.2] ++ List.replicate 10 .top) (fun _ => []) (fun env _ => (iAt env 7, iAt env 8))
    (fun k => k.1 = a.length ∧ 0 ≤ k.2 ∧ k.2 ≤ a.length ∧ ∀ y ∈ a.take k.2.toNat, (n == y) = false) (fun k => a.length - k.2.toNat) ((Classical.choice ioEx).1.len ea, 0) ?_ (.mt [] ?_) fun k hk Kn hKn => ?_
  · exact ⟨by simp only [x_len, la], Int.le_refl _, Int.natCast_nonneg _, by simp⟩
  · (cbv; repeat (refine ⟨rfl, ?_⟩; cbv))
  obtain ⟨m, k⟩ := k
  obtain ⟨hm, hk0, hk1, hk2⟩ := hk
  dsimp only at hm hk0 hk1 hk2
  cbv
  refine brk (fun h => ?_) (fun h => ?_)
  · simp only [x_lt, hm, decide_eq_true_eq] at h
    cbv
    refine .map hea hk0 (by ((try simp only [nc] at *); (try simp only [Int.ofNat_eq_natCast] at *); omega)) (fun _ => rfl) fun x hx => ?_
    cbv
    refine brk (fun h1 => ?_) (fun h1 => ?_)
    · simp only [x_eq, decide_eq_true_eq] at h1
      cbv
      refine hK _ _ (inE ?_)
      rw [findIdx_take hx hk2 (by simp [h1]), idxI]; ((try simp only [nc] at *); (try simp only [Int.ofNat_eq_natCast] at *); omega)
    · simp only [x_eq, decide_eq_false_iff_not] at h1
      cbv
      refine hKn _ _ (.mt [] ?_) ?_ ?_
      · (cbv; repeat (refine ⟨rfl, ?_⟩; cbv))
      · simp only [iAt, geti, x_add]
        rw [wr64 (by ((try simp only [nc] at *); (try simp only [Int.ofNat_eq_natCast] at *); omega)) (by ((try simp only [nc] at *); (try simp only [Int.ofNat_eq_natCast] at *); omega)), toNat_succ hk0, take_succ_eq hx]
        refine ⟨hm, by ((try simp only [nc] at *); (try simp only [Int.ofNat_eq_natCast] at *); omega), by ((try simp only [nc] at *); (try simp only [Int.ofNat_eq_natCast] at *); omega), fun y hy => ?_⟩
        rcases List.mem_append.1 hy with hy | hy
        · exact hk2 y hy
        · rw [List.mem_singleton.1 hy]; simp [h1]
      · simp only [iAt, geti, x_add]
        rw [wr64 (by ((try simp only [nc] at *); (try simp only [Int.ofNat_eq_natCast] at *); omega)) (by ((try simp only [nc] at *); (try simp only [Int.ofNat_eq_natCast] at *); omega))]
        ((try simp only [nc] at *); (try simp only [Int.ofNat_eq_natCast] at *); omega)
  · simp only [x_lt, hm, decide_eq_false_iff_not] at h
    rw [List.take_of_length_le (by ((try simp only [nc] at *); (try simp only [Int.ofNat_eq_natCast] at *); omega))] at hk2
    cbv
    refine hK _ _ (inE ?_)
    have : a.findIdx? (fun x => n == x) = none := by rw [List.findIdx?_eq_none_iff]; exact hk2
    rw [this]; rfl

theorem containsR {a : List Int} {ea : List (List D)} (n : Int) (hea : ea = a.map dI) (ha : a.length ≤ 1000000000) : Fn1 P 39 [.d (.sl ea), .i n] (.b (decide (n ∈ a))) := by
  refine .walk (hP ▸ d39_ok) fun K hK => ?_
  cbv
  refine .f1 (indexIR hP n hea ha) rfl rfl ?_
  generalize hv : idxI _ = v
  cbv
  refine hK _ _ (biE ?_)
  simp only [x_le, decide_eq_decide, ← hv]
  cases hf : a.findIdx? (fun x => n == x) with
  | none =>
    rw [List.findIdx?_eq_none_iff] at hf
    simp only [idxI]
    constructor
    · intro h; omega
    · intro h; have := hf n h; simp at this
  | some i =>
    rw [List.findIdx?_eq_some_iff_getElem] at hf
    obtain ⟨h1, h2, _⟩ := hf
    simp only [idxI]
    constructor
    · intro _
      have : n = a[i] := by simpa using h2
      rw [this]; exact List.getElem_mem h1
    · intro _; omega

def afterL (l : List Place) (t : List Bool) (c : List Int) : List Bool := (List.range l.length).map fun (i : Nat) => takenL t i || decide ((i : Int) ∈ c)
theorem afterR {l : List Place} {el : List (List D)} {t : List Bool} {et : List (List D)} {c : List Int} {ec : List (List D)} (hel : el = l.map Place.ds) (het : et = t.map dB) (hec : ec = c.map dI) (hl : l.length ≤ 1000000000) (hc : c.length ≤ 1000000000) :
    Fn1 P 26 [.d (.sl el), .d (.sl et), .d (.sl ec)] (.d (.sl ((afterL l t c).map dB))) := by
  refine .walkD (hP ▸ d26_ok) fun K hK => ?_
  have la : (el.length : Int) = l.length := by simp [hel]
  cbv
  refine .of (m := l.length) (by simp only [x_len, la]) hl (by decide) ?_
  cbv
  refine .intro (ι := List (List D) × Int) (fun k => [.d (.sl el), .d (.sl et), .d (.sl ec), .top, .top, .top, .top, .hd 0, .i k.2] ++ List.replicate 21 .top) (fun k => [.row 4 1 k.1]) (fun env own => (rAt own 0, iAt env 8))
    (fun k => 0 ≤ k.2 ∧ k.2 ≤ l.length ∧ ∃ ml : List Bool, k.1 = ml.map dB ∧ ml.length = l.length ∧ ml.take k.2.toNat = (afterL l t c).take k.2.toNat) (fun k => l.length - k.2.toNat) ((Classical.choice ioEx).1.rep ((Classical.choice ioEx).1.len el) [.val (.bool false)], 0) ?_ (.mt [0] ?_) fun k hk Kn hKn => ?_
  · refine ⟨Int.le_refl _, Int.natCast_nonneg _, List.replicate l.length false, ?_, by simp, rfl⟩
    simp only [x_rep, x_len, la, List.map_replicate]; rfl
  · (cbv; repeat (refine ⟨rfl, ?_⟩; cbv))
  obtain ⟨eo, k⟩ := k
  obtain ⟨hk0, hk1, ml, hml, hmlen, hmt⟩ := hk
  dsimp only at hk0 hk1 hml hmt
  have lo : eo.length = l.length := by rw [hml, List.length_map, hmlen]
  cbv
  refine brk (fun h => ?_) (fun h => ?_)
  · simp only [x_lt, x_len, la, decide_eq_true_eq] at h
    have hkl : k.toNat < (afterL l t c).length := by rw [afterL, List.length_map, List.length_range]; ((try simp only [nc] at *); (try simp only [Int.ofNat_eq_natCast] at *); omega)
    have hak : (afterL l t c)[k.toNat]? = some (takenL t k || decide (k ∈ c)) := by
      rw [afterL, List.getElem?_map, List.getElem?_range (by ((try simp only [nc] at *); (try simp only [Int.ofNat_eq_natCast] at *); omega))]
      simp only [Option.map_some, Int.toNat_of_nonneg hk0]
    have fin : ∀ b : Bool, b = (takenL t k || decide (k ∈ c)) → (ml.set k.toNat b).take (k.toNat + 1) = (afterL l t c).take (k.toNat + 1) := fun b hb => by
      have hlt : k.toNat < ml.length := by ((try simp only [nc] at *); (try simp only [Int.ofNat_eq_natCast] at *); omega)
      have hg : (ml.set k.toNat b)[k.toNat]? = some b := List.getElem?_set_self hlt
      rw [take_succ_eq hg, take_succ_eq hak, List.take_set_of_le (Nat.le_refl _), hmt, hb]
    cbv
    refine .f1 (takenR hP k het) rfl rfl ?_
    generalize hv : takenL t k = v
    rw [hv] at fin
    cbv
    refine brk (fun h1 => ?_) (fun h1 => ?_)
    · subst h1
      cbv
      refine ⟨hk0, by rw [lo]; exact h, ?_⟩
      cbv
      refine .map hml (by simp only [x_nat]; ((try simp only [nc] at *); (try simp only [Int.ofNat_eq_natCast] at *); omega)) fun y hy => ?_
      cbv
      refine hKn _ _ (.mt [0] ?_) ?_ ?_
      · (cbv; repeat (refine ⟨rfl, ?_⟩; cbv))
      · simp only [iAt, geti, rAt, getr, x_add, x_set, x_nat]
        rw [wr64 (by ((try simp only [nc] at *); (try simp only [Int.ofNat_eq_natCast] at *); omega)) (by ((try simp only [nc] at *); (try simp only [Int.ofNat_eq_natCast] at *); omega)), toNat_succ hk0]
        refine ⟨by ((try simp only [nc] at *); (try simp only [Int.ofNat_eq_natCast] at *); omega), by ((try simp only [nc] at *); (try simp only [Int.ofNat_eq_natCast] at *); omega), ml.set k.toNat true, ?_, by rw [List.length_set]; exact hmlen, fin true (by simp)⟩
        rw [hml, List.map_set]; rfl
      · simp only [iAt, geti, x_add]
        rw [wr64 (by ((try simp only [nc] at *); (try simp only [Int.ofNat_eq_natCast] at *); omega)) (by ((try simp only [nc] at *); (try simp only [Int.ofNat_eq_natCast] at *); omega))]
        ((try simp only [nc] at *); (try simp only [Int.ofNat_eq_natCast] at *); omega)
    · subst h1
      cbv
      refine .f1 (inR hP k hec hc) rfl rfl ?_
      generalize hw : decide (k ∈ c) = w
      simp only [Bool.false_or, hw] at fin
      cbv
      refine ⟨hk0, by rw [lo]; exact h, ?_⟩
      cbv
      refine .map hml (by simp only [x_nat]; ((try simp only [nc] at *); (try simp only [Int.ofNat_eq_natCast] at *); omega)) fun y hy => ?_
      cbv
      refine hKn _ _ (.mt [0] ?_) ?_ ?_
      · (cbv; repeat (refine ⟨rfl, ?_⟩; cbv))
      · simp only [iAt, geti, rAt, getr, x_add, x_set, x_nat]
        rw [wr64 (by ((try simp only [nc] at *); (try simp only [Int.ofNat_eq_natCast] at *); omega)) (by ((try simp only [nc] at *); (try simp only [Int.ofNat_eq_natCast] at *); omega)), toNat_succ hk0]
        refine ⟨by ((try simp only [nc] at *); (try simp only [Int.ofNat_eq_natCast] at *); omega), by ((try simp only [nc] at *); (try simp only [Int.ofNat_eq_natCast] at *); omega), ml.set k.toNat w, ?_, by rw [List.length_set]; exact hmlen, fin w rfl⟩
        rw [hml, List.map_set]; rfl
      · simp only [iAt, geti, x_add]
        rw [wr64 (by ((try simp only [nc] at *); (try simp only [Int.ofNat_eq_natCast] at *); omega)) (by ((try simp only [nc] at *); (try simp only [Int.ofNat_eq_natCast] at *); omega))]
        ((try simp only [nc] at *); (try simp only [Int.ofNat_eq_natCast] at *); omega)
  · simp only [x_lt, x_len, la, decide_eq_false_iff_not] at h
    cbv
    refine hK _ _ (slE ?_)
    have e : (afterL l t c).length = l.length := by rw [afterL, List.length_map, List.length_range]
    rw [List.take_of_length_le (by ((try simp only [nc] at *); (try simp only [Int.ofNat_eq_natCast] at *); omega)), List.take_of_length_le (by ((try simp only [nc] at *); (try simp only [Int.ofNat_eq_natCast] at *); omega))] at hmt
    rw [hml, hmt]
end Go.SX.Runs
/-
  Runs: the example's places.
-/
namespace Go.SX.Runs
open Go Go.Proofs
def exL : List Place := [⟨0, 0, 0, 0, 1, 0, 0, 0, 0⟩, ⟨0, 0, 0, 0, 2, 0, 0, 0, 0⟩, ⟨0, 0, 0, 0, 3, 0, 0, 0, 0⟩, ⟨0, 0, 0, 0, 5, 0, 0, 0, 0⟩, ⟨0, 0, 0, 0, 6, 0, 0, 0, 0⟩]
variable {P : Program} (hP : P = Try.prog)
include hP
theorem exampleR : Fn1 P 28 [] (.d (.sl (exL.map Place.ds))) := by
  refine .walkD (hP ▸ d28_ok) fun K hK => ?_
  generalize hx : exL.map Place.ds = ex at hK
  cbv
  refine hK _ _ (slE ?_)
  rw [← hx]; rfl
end Go.SX.Runs
