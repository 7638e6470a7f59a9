/-
  Runs: the runs that are free.
-/
import Derived.Test.YtlahdopmiplnoaaXR8
namespace Go.SX.Runs
open Go Go.Proofs
def runI (g : List (Place × Nat)) : List Int := g.map fun x => (x.2 : Int)
def allL (l : List Place) : List (Place × Nat) := if seatsOk l then seatsL l else []
def freeI (l : List Place) (t : List Bool) : List (List Int) := (divideL (freeL t (allL l))).map runI
theorem divideL_len (fl : List (Place × Nat)) : (divideL fl).length ≤ fl.length := (divTo_le fl fl.length).2
theorem divTo_mem (fl : List (Place × Nat)) (k : Nat) : ∀ g ∈ (divTo fl k).1, g.length ≤ fl.length := by
  induction k with
  | zero => intro g hg; simp [divTo] at hg
  | succ k ih =>
    intro g hg
    rw [divTo_succ, divStep] at hg
    split at hg
    · rcases List.mem_append.1 hg with h | h
      · exact ih g h
      · rw [List.mem_singleton.1 h, List.length_drop, List.length_take]; omega
    · exact ih g hg
theorem divideL_mem {fl g : List (Place × Nat)} (h : g ∈ divideL fl) : g.length ≤ fl.length := divTo_mem fl _ g h
variable {P : Program} (hP : P = Try.prog)
include hP
theorem deleteNilR {t : List Bool} {et : List (List D)} (het : et = t.map dB) : Fn1 P 30 [.d (.sl []), .clo (.func 31) [] [.fp [.sl et]]] (.d (.sl [])) := by
  refine .walkD (hP ▸ d30_ok) fun K hK => ?_
  cbv
  refine .f1 (indexR hP het (sl := []) rfl (by simp)) rfl rfl ?_
  generalize hv : idxI _ = v
  have hv1 : v = -1 := hv.symm
  cbv
  refine brk (fun h => ?_) (fun h => ?_)
  · cbv
    exact hK _ _ rfl
  · simp only [x_eq, hv1, decide_true] at h
    cases h
theorem freeR {l : List Place} {el : List (List D)} {t : List Bool} {et : List (List D)} (hel : el = l.map Place.ds) (het : et = t.map dB) (hl : l.length ≤ 1000000000) :
    Fn1 P 15 [.d (.sl el), .d (.sl et)] (.d (.sl ((freeI l t).map dL))) := by
  refine .walkD (hP ▸ d15_ok) fun K hK => ?_
  generalize hfl : freeL t (allL l) = fl
  have hfll : fl.length ≤ 1000000000 := by
    have h1 := freeL_len t (allL l)
    have h2 : (allL l).length ≤ l.length := by
      rw [allL]; split
      · exact seatsL_len l
      · simp
    rw [hfl] at h1; omega
  obtain ⟨ef, hef⟩ : ∃ ef, ef = fl.map seatD := ⟨_, rfl⟩
  have hfi : freeI l t = (divideL fl).map runI := by rw [freeI, hfl]
  cbv
  refine .own (SCall.frame (seatsR0 hP hel hl) rfl) fun sv own' h => ?_
  obtain ⟨sv0, own0, h0, rfl, rfl⟩ := h
  rcases h0 with ⟨h1, rfl, rfl⟩ | ⟨h1, rfl, es0, rfl⟩
  · have hal : freeL t (seatsL l) = fl := by rw [← hfl, allL, if_pos h1]
    generalize hes : (seatsL l).map seatD = es
    cbv
    refine .embP [0] [1] (deleteR hP het hes.symm (by have := seatsL_len l; omega)) ?_ fun sv0 own0' h _ => ?_
    · (cbv; repeat (refine ⟨rfl, ?_⟩; cbv))
    obtain ⟨rfl, rfl⟩ := h
    rw [hal, ← hef]
    cbv
    refine .f1 (divideR hP hef hfll) rfl rfl ?_
    obtain ⟨ed, hdv⟩ : ∃ ed, ed = (divideL fl).map runD := ⟨_, rfl⟩
    rw [← hdv]
    cbv
    refine .intro (ι := List (List D) × Int × Int) (fun k => List.replicate 8 .top ++ [.hd 0] ++ List.replicate 14 .top ++ [.d (.sl ed), .i k.2.1, .i k.2.2] ++ List.replicate 21 .top) (fun k => [.row 24 1 k.1]) (fun env own => (rAt own (hAt env 8), iAt env 24, iAt env 25))
      (fun k => k.2.1 = (divideL fl).length ∧ 0 ≤ k.2.2 ∧ k.2.2 ≤ (divideL fl).length ∧ k.1 = (((divideL fl).take k.2.2.toNat).map runI).map dL) (fun k => (divideL fl).length - k.2.2.toNat)
      ([], (Classical.choice ioEx).1.len ed, 0) ?_ (.nilrow 8 24 1 rfl (.mt [2] ?_)) fun k hk Kn hKn => ?_
    · exact ⟨by simp only [x_len, hdv, List.length_map], Int.le_refl _, Int.natCast_nonneg _, rfl⟩
    · (cbv; repeat (refine ⟨rfl, ?_⟩; cbv))
    obtain ⟨eo, n, k⟩ := k
    obtain ⟨hn, hk0, hk1, ho⟩ := hk
    dsimp only at hn hk0 hk1 ho
    have hdl := divideL_len fl
    have hol : eo.length ≤ 1000000000 := by
      rw [ho, List.length_map, List.length_map, List.length_take]; omega
    cbv
    refine brk (fun h => ?_) (fun h => ?_)
    · simp only [x_lt, hn, decide_eq_true_eq] at h
      cbv
      refine .map hdv hk0 (by ((try simp only [nc] at *); (try simp only [Int.ofNat_eq_natCast] at *); omega)) (fun _ => rfl) fun g hg => ?_
      have hgl := divideL_mem (List.mem_of_getElem? hg)
      unfold runD
      obtain ⟨eg, hge⟩ : ∃ eg, eg = g.map seatD := ⟨_, rfl⟩
      rw [← hge]
      cbv
      refine .intro (ι := List (List D) × Int × Int) (fun q => List.replicate 8 .top ++ [.hd 0, .top, .top, .hd 1] ++ List.replicate 11 .top ++ [.d (.sl ed), .i n, .i k] ++ List.replicate 3 .top ++ [.d (.sl eg), .i q.2.1, .i q.2.2] ++ List.replicate 15 .top) (fun q => [.row 24 1 eo, .row 3 1 q.1]) (fun env own => (rAt own (hAt env 11), iAt env 30, iAt env 31))
        (fun q => q.2.1 = g.length ∧ 0 ≤ q.2.2 ∧ q.2.2 ≤ g.length ∧ q.1 = (runI (g.take q.2.2.toNat)).map dI) (fun q => g.length - q.2.2.toNat)
        ([], (Classical.choice ioEx).1.len eg, 0) ?_ (.nilrow 11 3 1 rfl (.mt [0, 1] ?_)) fun q hq Kn2 hKn2 => ?_
      · exact ⟨by simp only [x_len, hge, List.length_map], Int.le_refl _, Int.natCast_nonneg _, rfl⟩
      · (cbv; repeat (refine ⟨rfl, ?_⟩; cbv))
      obtain ⟨ei, n2, k2⟩ := q
      obtain ⟨hn2, hq0, hq1, hei⟩ := hq
      dsimp only at hn2 hq0 hq1 hei
      have heil : ei.length ≤ 1000000000 := by
        rw [hei, List.length_map, runI, List.length_map, List.length_take]; omega
      cbv
      refine brk (fun h2 => ?_) (fun h2 => ?_)
      · simp only [x_lt, hn2, decide_eq_true_eq] at h2
        cbv
        refine .map hge hq0 (by ((try simp only [nc] at *); (try simp only [Int.ofNat_eq_natCast] at *); omega)) (fun _ => rfl) fun x hx => ?_
        obtain ⟨x, xi⟩ := x
        cbv
        refine .one rfl heil (by decide) ?_
        cbv
        refine hKn2 _ _ (.mt [0, 4] ?_) ?_ ?_
        · (cbv; repeat (refine ⟨rfl, ?_⟩; cbv))
        · simp only [iAt, geti, hAt, rAt, getr, x_add, x_app]
          rw [wr64 (by ((try simp only [nc] at *); (try simp only [Int.ofNat_eq_natCast] at *); omega)) (by ((try simp only [nc] at *); (try simp only [Int.ofNat_eq_natCast] at *); omega)), toNat_succ hq0, take_succ_eq hx]
          refine ⟨hn2, by ((try simp only [nc] at *); (try simp only [Int.ofNat_eq_natCast] at *); omega), by ((try simp only [nc] at *); (try simp only [Int.ofNat_eq_natCast] at *); omega), ?_⟩
          rw [runI, List.map_append, List.map_append, hei]
          rfl
        · simp only [iAt, geti, x_add]
          rw [wr64 (by ((try simp only [nc] at *); (try simp only [Int.ofNat_eq_natCast] at *); omega)) (by ((try simp only [nc] at *); (try simp only [Int.ofNat_eq_natCast] at *); omega))]
          ((try simp only [nc] at *); (try simp only [Int.ofNat_eq_natCast] at *); omega)
      · simp only [x_lt, hn2, decide_eq_false_iff_not] at h2
        rw [List.take_of_length_le (by ((try simp only [nc] at *); (try simp only [Int.ofNat_eq_natCast] at *); omega))] at hei
        cbv
        refine .one rfl hol (by decide) ?_
        cbv
        refine hKn _ _ (.mt [3] ?_) ?_ ?_
        · (cbv; repeat (refine ⟨rfl, ?_⟩; cbv))
        · simp only [iAt, geti, hAt, rAt, getr, x_add, x_app]
          rw [wr64 (by ((try simp only [nc] at *); (try simp only [Int.ofNat_eq_natCast] at *); omega)) (by ((try simp only [nc] at *); (try simp only [Int.ofNat_eq_natCast] at *); omega)), toNat_succ hk0, take_succ_eq hg]
          refine ⟨hn, by ((try simp only [nc] at *); (try simp only [Int.ofNat_eq_natCast] at *); omega), by ((try simp only [nc] at *); (try simp only [Int.ofNat_eq_natCast] at *); omega), ?_⟩
          rw [List.map_append, List.map_append, ho, hei]
          rfl
        · simp only [iAt, geti, x_add]
          rw [wr64 (by ((try simp only [nc] at *); (try simp only [Int.ofNat_eq_natCast] at *); omega)) (by ((try simp only [nc] at *); (try simp only [Int.ofNat_eq_natCast] at *); omega))]
          ((try simp only [nc] at *); (try simp only [Int.ofNat_eq_natCast] at *); omega)
    · simp only [x_lt, hn, decide_eq_false_iff_not] at h
      rw [List.take_of_length_le (by ((try simp only [nc] at *); (try simp only [Int.ofNat_eq_natCast] at *); omega))] at ho
      cbv
      refine hK _ _ (slE ?_)
      rw [hfi]; exact ho
  · have hal : fl = [] := by rw [← hfl, allL, if_neg (by rw [h1]; simp)]; rfl
    have hef0 : ef = [] := by rw [hef, hal]; rfl
    cbv
    refine .frzP [0] ((deleteNilR hP het).fn rfl rfl) fun sv0 own0' h => ?_
    obtain ⟨rfl, rfl⟩ := h
    rw [← hef0]
    cbv
    refine .f1 (divideR hP hef hfll) rfl rfl ?_
    obtain ⟨ed, hdv⟩ : ∃ ed, ed = (divideL fl).map runD := ⟨_, rfl⟩
    rw [← hdv]
    cbv
    refine .intro (ι := List (List D) × Int × Int) (fun k => List.replicate 8 .top ++ [.hd 0] ++ List.replicate 14 .top ++ [.d (.sl ed), .i k.2.1, .i k.2.2] ++ List.replicate 21 .top) (fun k => [.row 24 1 k.1]) (fun env own => (rAt own (hAt env 8), iAt env 24, iAt env 25))
      (fun k => k.2.1 = (divideL fl).length ∧ 0 ≤ k.2.2 ∧ k.2.2 ≤ (divideL fl).length ∧ k.1 = (((divideL fl).take k.2.2.toNat).map runI).map dL) (fun k => (divideL fl).length - k.2.2.toNat)
      ([], (Classical.choice ioEx).1.len ed, 0) ?_ (.nilrow 8 24 1 rfl (.mt [2] ?_)) fun k hk Kn hKn => ?_
    · exact ⟨by simp only [x_len, hdv, List.length_map], Int.le_refl _, Int.natCast_nonneg _, rfl⟩
    · (cbv; repeat (refine ⟨rfl, ?_⟩; cbv))
    obtain ⟨eo, n, k⟩ := k
    obtain ⟨hn, hk0, hk1, ho⟩ := hk
    dsimp only at hn hk0 hk1 ho
    have hdl := divideL_len fl
    have hol : eo.length ≤ 1000000000 := by
      rw [ho, List.length_map, List.length_map, List.length_take]; omega
    cbv
    refine brk (fun h => ?_) (fun h => ?_)
    · simp only [x_lt, hn, decide_eq_true_eq] at h
      cbv
      refine .map hdv hk0 (by ((try simp only [nc] at *); (try simp only [Int.ofNat_eq_natCast] at *); omega)) (fun _ => rfl) fun g hg => ?_
      have hgl := divideL_mem (List.mem_of_getElem? hg)
      unfold runD
      obtain ⟨eg, hge⟩ : ∃ eg, eg = g.map seatD := ⟨_, rfl⟩
      rw [← hge]
      cbv
      refine .intro (ι := List (List D) × Int × Int) (fun q => List.replicate 8 .top ++ [.hd 0, .top, .top, .hd 1] ++ List.replicate 11 .top ++ [.d (.sl ed), .i n, .i k] ++ List.replicate 3 .top ++ [.d (.sl eg), .i q.2.1, .i q.2.2] ++ List.replicate 15 .top) (fun q => [.row 24 1 eo, .row 3 1 q.1]) (fun env own => (rAt own (hAt env 11), iAt env 30, iAt env 31))
        (fun q => q.2.1 = g.length ∧ 0 ≤ q.2.2 ∧ q.2.2 ≤ g.length ∧ q.1 = (runI (g.take q.2.2.toNat)).map dI) (fun q => g.length - q.2.2.toNat)
        ([], (Classical.choice ioEx).1.len eg, 0) ?_ (.nilrow 11 3 1 rfl (.mt [0, 1] ?_)) fun q hq Kn2 hKn2 => ?_
      · exact ⟨by simp only [x_len, hge, List.length_map], Int.le_refl _, Int.natCast_nonneg _, rfl⟩
      · (cbv; repeat (refine ⟨rfl, ?_⟩; cbv))
      obtain ⟨ei, n2, k2⟩ := q
      obtain ⟨hn2, hq0, hq1, hei⟩ := hq
      dsimp only at hn2 hq0 hq1 hei
      have heil : ei.length ≤ 1000000000 := by
        rw [hei, List.length_map, runI, List.length_map, List.length_take]; omega
      cbv
      refine brk (fun h2 => ?_) (fun h2 => ?_)
      · simp only [x_lt, hn2, decide_eq_true_eq] at h2
        cbv
        refine .map hge hq0 (by ((try simp only [nc] at *); (try simp only [Int.ofNat_eq_natCast] at *); omega)) (fun _ => rfl) fun x hx => ?_
        obtain ⟨x, xi⟩ := x
        cbv
        refine .one rfl heil (by decide) ?_
        cbv
        refine hKn2 _ _ (.mt [0, 4] ?_) ?_ ?_
        · (cbv; repeat (refine ⟨rfl, ?_⟩; cbv))
        · simp only [iAt, geti, hAt, rAt, getr, x_add, x_app]
          rw [wr64 (by ((try simp only [nc] at *); (try simp only [Int.ofNat_eq_natCast] at *); omega)) (by ((try simp only [nc] at *); (try simp only [Int.ofNat_eq_natCast] at *); omega)), toNat_succ hq0, take_succ_eq hx]
          refine ⟨hn2, by ((try simp only [nc] at *); (try simp only [Int.ofNat_eq_natCast] at *); omega), by ((try simp only [nc] at *); (try simp only [Int.ofNat_eq_natCast] at *); omega), ?_⟩
          rw [runI, List.map_append, List.map_append, hei]
          rfl
        · simp only [iAt, geti, x_add]
          rw [wr64 (by ((try simp only [nc] at *); (try simp only [Int.ofNat_eq_natCast] at *); omega)) (by ((try simp only [nc] at *); (try simp only [Int.ofNat_eq_natCast] at *); omega))]
          ((try simp only [nc] at *); (try simp only [Int.ofNat_eq_natCast] at *); omega)
      · simp only [x_lt, hn2, decide_eq_false_iff_not] at h2
        rw [List.take_of_length_le (by ((try simp only [nc] at *); (try simp only [Int.ofNat_eq_natCast] at *); omega))] at hei
        cbv
        refine .one rfl hol (by decide) ?_
        cbv
        refine hKn _ _ (.mt [3] ?_) ?_ ?_
        · (cbv; repeat (refine ⟨rfl, ?_⟩; cbv))
        · simp only [iAt, geti, hAt, rAt, getr, x_add, x_app]
          rw [wr64 (by ((try simp only [nc] at *); (try simp only [Int.ofNat_eq_natCast] at *); omega)) (by ((try simp only [nc] at *); (try simp only [Int.ofNat_eq_natCast] at *); omega)), toNat_succ hk0, take_succ_eq hg]
          refine ⟨hn, by ((try simp only [nc] at *); (try simp only [Int.ofNat_eq_natCast] at *); omega), by ((try simp only [nc] at *); (try simp only [Int.ofNat_eq_natCast] at *); omega), ?_⟩
          rw [List.map_append, List.map_append, ho, hei]
          rfl
        · simp only [iAt, geti, x_add]
          rw [wr64 (by ((try simp only [nc] at *); (try simp only [Int.ofNat_eq_natCast] at *); omega)) (by ((try simp only [nc] at *); (try simp only [Int.ofNat_eq_natCast] at *); omega))]
          ((try simp only [nc] at *); (try simp only [Int.ofNat_eq_natCast] at *); omega)
    · simp only [x_lt, hn, decide_eq_false_iff_not] at h
      rw [List.take_of_length_le (by ((try simp only [nc] at *); (try simp only [Int.ofNat_eq_natCast] at *); omega))] at ho
      cbv
      refine hK _ _ (slE ?_)
      rw [hfi]; exact ho
end Go.SX.Runs
