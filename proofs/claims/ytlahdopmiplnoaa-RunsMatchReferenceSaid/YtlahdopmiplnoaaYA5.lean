/-
  Runs: the reference's other functions.
-/
import Derived.Test.YtlahdopmiplnoaaYA3
import Derived.Test.YtlahdopmiplnoaaYA4
set_option linter.unusedSimpArgs false
set_option linter.unusedVariables false
set_option linter.unusedSectionVars false
namespace Go.SX.Runs
open Go Go.Proofs
theorem refFree_len (l : List Place) (t : List Bool) : (refFree l t).length ≤ l.length ∧ ∀ r ∈ refFree l t, r ≠ [] ∧ r.length ≤ l.length := by
  unfold refFree
  split
  · have := refTo_ok l t l.length (Nat.le_refl _)
    exact ⟨this.2.1, this.2.2⟩
  · exact ⟨Nat.zero_le _, fun r hr => by cases hr⟩
theorem aloneL_len (rs : List (List Int)) : (aloneL rs).length ≤ rs.length := by
  rw [aloneL, List.length_map]; exact List.length_filter_le _ _
theorem offW_len (was now : List Int) : (offW was now).length ≤ now.length := List.length_filter_le _ _
variable {P : Program} (hP : P = Try.prog)
include hP
theorem refRowsR {l : List Place} {el : List (List D)} (hel : el = l.map Place.ds) (hl : l.length ≤ 1000000) :
    Fn1 P 14 [.d (.sl el)] (.d (.sl ((refFree l []).map dL))) := by
  refine .walkD (hP ▸ d14_ok) fun K hK => ?_
  cbv
  refine .f1z (refFreeR hP hel (t := []) rfl hl) rfl rfl ?_
  generalize hr : (refFree l []).map dL = r
  cbv
  exact hK _ _ (slE hr.symm)
set_option maxHeartbeats 4000000 in
theorem aloneR {l : List Place} {el : List (List D)} {t : List Bool} {et : List (List D)} (hel : el = l.map Place.ds) (het : et = t.map dB) (hl : l.length ≤ 1000000) :
    Fn1 P 40 [.d (.sl el), .d (.sl et)] (.d (.sl ((aloneL (refFree l t)).map dI))) := by
  refine .walkD (hP ▸ d40_ok) fun K hK => ?_
  have hKs : ∀ sv own', nrmR (frzR own' sv) sv = SV.d (D.sl ((aloneL (refFree l t)).map dI)) → K sv own' := hK
  clear hK
  obtain ⟨hrl, hrm⟩ := refFree_len l t
  cbv
  refine .f1z (refFreeR hP hel het hl) rfl rfl ?_
  generalize refFree l t = rs at hKs hrl hrm
  obtain ⟨er, her⟩ : ∃ er, er = rs.map dL := ⟨_, rfl⟩
  rw [← her]
  have lr : (er.length : Int) = rs.length := by simp [her]
  cbv
  refine .intro (ι := List (List D) × Int) (fun k => [.d (.sl el), .d (.sl et), .top, .top, .top, .d (.sl er), .hd 0, .i k.2] ++ List.replicate 25 .top) (fun k => [.row 3 1 k.1]) (fun env own => (rAt own (hAt env 6), iAt env 7))
    (fun k => 0 ≤ k.2 ∧ k.2 ≤ rs.length ∧ k.1 = (aloneL (rs.take k.2.toNat)).map dI) (fun k => rs.length - k.2.toNat)
    ([], 0) ?_ (.nilrow 6 3 1 rfl (.mt [0] ?_)) fun k hk Kn hKn => ?_
  · exact ⟨Int.le_refl _, Int.natCast_nonneg _, rfl⟩
  · (cbv; repeat (refine ⟨rfl, ?_⟩; cbv))
  obtain ⟨eo, k⟩ := k
  obtain ⟨hk0, hk1, ho⟩ := hk
  dsimp only at hk0 hk1 ho
  have hol : eo.length ≤ 1000000000 := by
    have := aloneL_len (rs.take k.toNat)
    rw [ho, List.length_map]; rw [List.length_take] at this; omega
  cbv
  refine brk (fun h => ?_) (fun h => ?_)
  · simp only [x_lt, x_len, lr, decide_eq_true_eq] at h
    cbv
    refine .lists her hk0 (by (first | omega | ((try simp only [nc] at *); (try simp only [Int.ofNat_eq_natCast] at *); omega))) fun r y hr hy => ?_
    obtain ⟨hr1, hr2⟩ := hrm r (List.mem_of_getElem? hr)
    have hr3 : 0 < r.length := List.length_pos_iff.2 hr1
    have ly : (y.length : Int) = r.length := by simp [hy]
    cbv
    refine brk (fun h1 => ?_) (fun h1 => ?_)
    · simp only [x_eq, x_len, ly, decide_eq_true_eq] at h1
      have hone : r.length = 1 := by (first | omega | ((try simp only [nc] at *); (try simp only [Int.ofNat_eq_natCast] at *); omega))
      cbv
      refine .lists her hk0 (by (first | omega | ((try simp only [nc] at *); (try simp only [Int.ofNat_eq_natCast] at *); omega))) fun r' y' hr' hy' => ?_
      rw [hr] at hr'; cases hr'
      have ly' : (y'.length : Int) = r.length := by simp [hy']
      cbv
      refine .map hy' (Int.le_refl _) (by (first | omega | ((try simp only [nc] at *); (try simp only [Int.ofNat_eq_natCast] at *); omega))) (fun _ => rfl) fun x hx => ?_
      have hh := head_of hx
      cbv
      refine .one rfl hol (by decide) ?_
      cbv
      refine hKn _ _ (.mt [2] ?_) ?_ ?_
      · (cbv; repeat (refine ⟨rfl, ?_⟩; cbv))
      · simp only [iAt, geti, hAt, rAt, getr, x_add, x_app]
        rw [wr64 (by (first | omega | ((try simp only [nc] at *); (try simp only [Int.ofNat_eq_natCast] at *); omega))) (by (first | omega | ((try simp only [nc] at *); (try simp only [Int.ofNat_eq_natCast] at *); omega))), toNat_succ hk0, take_succ_eq hr, aloneL_snoc, hh, if_pos hone]
        refine ⟨by (first | omega | ((try simp only [nc] at *); (try simp only [Int.ofNat_eq_natCast] at *); omega)), by (first | omega | ((try simp only [nc] at *); (try simp only [Int.ofNat_eq_natCast] at *); omega)), ?_⟩
        rw [List.map_append, ho]; rfl
      · simp only [iAt, geti, x_add]
        rw [wr64 (by (first | omega | ((try simp only [nc] at *); (try simp only [Int.ofNat_eq_natCast] at *); omega))) (by (first | omega | ((try simp only [nc] at *); (try simp only [Int.ofNat_eq_natCast] at *); omega)))]
        (first | omega | ((try simp only [nc] at *); (try simp only [Int.ofNat_eq_natCast] at *); omega))
    · simp only [x_eq, x_len, ly, decide_eq_false_iff_not] at h1
      cbv
      refine hKn _ _ (.mt [0] ?_) ?_ ?_
      · (cbv; repeat (refine ⟨rfl, ?_⟩; cbv))
      · simp only [iAt, geti, hAt, rAt, getr, x_add]
        rw [wr64 (by (first | omega | ((try simp only [nc] at *); (try simp only [Int.ofNat_eq_natCast] at *); omega))) (by (first | omega | ((try simp only [nc] at *); (try simp only [Int.ofNat_eq_natCast] at *); omega))), toNat_succ hk0, take_succ_eq hr, aloneL_snoc, if_neg (by (first | omega | ((try simp only [nc] at *); (try simp only [Int.ofNat_eq_natCast] at *); omega))), List.append_nil]
        exact ⟨by (first | omega | ((try simp only [nc] at *); (try simp only [Int.ofNat_eq_natCast] at *); omega)), by (first | omega | ((try simp only [nc] at *); (try simp only [Int.ofNat_eq_natCast] at *); omega)), ho⟩
      · simp only [iAt, geti, x_add]
        rw [wr64 (by (first | omega | ((try simp only [nc] at *); (try simp only [Int.ofNat_eq_natCast] at *); omega))) (by (first | omega | ((try simp only [nc] at *); (try simp only [Int.ofNat_eq_natCast] at *); omega)))]
        (first | omega | ((try simp only [nc] at *); (try simp only [Int.ofNat_eq_natCast] at *); omega))
  · simp only [x_lt, x_len, lr, decide_eq_false_iff_not] at h
    rw [List.take_of_length_le (by (first | omega | ((try simp only [nc] at *); (try simp only [Int.ofNat_eq_natCast] at *); omega)))] at ho
    cbv
    refine hKs _ _ (slE ?_)
    exact ho
set_option maxHeartbeats 4000000 in
theorem refSinglesR {l : List Place} {el : List (List D)} {t : List Bool} {et : List (List D)} {c : List Int} {ec : List (List D)} (hel : el = l.map Place.ds) (het : et = t.map dB) (hec : ec = c.map dI) (hl : l.length ≤ 1000000) (hc : c.length ≤ 1000000) :
    Fn1 P 21 [.d (.sl el), .d (.sl et), .d (.sl ec)] (.d (.sl ((offW (aloneL (refFree l t)) (aloneL (refFree l (afterL l t c)))).map dI))) := by
  refine .walkD (hP ▸ d21_ok) fun K hK => ?_
  have hKs : ∀ sv own', nrmR (frzR own' sv) sv = SV.d (D.sl ((offW (aloneL (refFree l t)) (aloneL (refFree l (afterL l t c)))).map dI)) → K sv own' := hK
  clear hK
  have hwl : (aloneL (refFree l t)).length ≤ l.length := Nat.le_trans (aloneL_len _) (refFree_len l t).1
  have hnl : (aloneL (refFree l (afterL l t c))).length ≤ l.length := Nat.le_trans (aloneL_len _) (refFree_len l _).1
  obtain ⟨ea, hea⟩ : ∃ ea, ea = (afterL l t c).map dB := ⟨_, rfl⟩
  have hA := aloneR hP hel hea hl
  cbv
  refine .f1z (aloneR hP hel het hl) rfl rfl ?_
  generalize aloneL (refFree l t) = was at hKs hwl
  generalize aloneL (refFree l (afterL l t c)) = now at hKs hnl hA
  obtain ⟨ew, hew⟩ : ∃ ew, ew = was.map dI := ⟨_, rfl⟩
  rw [← hew]
  cbv
  refine .f1z (afterR hP hel het hec (by omega) (by omega)) rfl rfl ?_
  rw [← hea]
  cbv
  refine .f1z hA rfl rfl ?_
  obtain ⟨en, hen⟩ : ∃ en, en = now.map dI := ⟨_, rfl⟩
  rw [← hen]
  have ln : (en.length : Int) = now.length := by simp [hen]
  clear hA
  cbv
  refine .intro (ι := List (List D) × Int) (fun k => [.d (.sl el), .d (.sl et), .d (.sl ec), .top, .top, .top, .top, .d (.sl ew), .d (.sl en), .hd 0, .i k.2] ++ List.replicate 30 .top) (fun k => [.row 3 1 k.1]) (fun env own => (rAt own (hAt env 9), iAt env 10))
    (fun k => 0 ≤ k.2 ∧ k.2 ≤ now.length ∧ k.1 = (offW was (now.take k.2.toNat)).map dI) (fun k => now.length - k.2.toNat)
    ([], 0) ?_ (.nilrow 9 3 1 rfl (.mt [0] ?_)) fun k hk Kn hKn => ?_
  · exact ⟨Int.le_refl _, Int.natCast_nonneg _, rfl⟩
  · (cbv; repeat (refine ⟨rfl, ?_⟩; cbv))
  obtain ⟨eo, k⟩ := k
  obtain ⟨hk0, hk1, ho⟩ := hk
  dsimp only at hk0 hk1 ho
  have hol : eo.length ≤ 1000000000 := by
    have := offW_len was (now.take k.toNat)
    rw [ho, List.length_map]; rw [List.length_take] at this; omega
  cbv
  refine brk (fun h => ?_) (fun h => ?_)
  · simp only [x_lt, x_len, ln, decide_eq_true_eq] at h
    cbv
    refine .map hen hk0 (by (first | omega | ((try simp only [nc] at *); (try simp only [Int.ofNat_eq_natCast] at *); omega))) (fun _ => rfl) fun x hx => ?_
    cbv
    refine .f1 (inR hP x hew (by omega)) rfl rfl ?_
    generalize hd : decide (x ∈ was) = d
    cbv
    refine brk (fun h1 => ?_) (fun h1 => ?_)
    · simp only [x_not, Bool.not_eq_true'] at h1
      subst h1
      have hnx : ¬ x ∈ was := of_decide_eq_false hd
      cbv
      refine .map hen hk0 (by (first | omega | ((try simp only [nc] at *); (try simp only [Int.ofNat_eq_natCast] at *); omega))) (fun _ => rfl) fun x' hx' => ?_
      rw [hx] at hx'; cases hx'
      cbv
      refine .one rfl hol (by decide) ?_
      cbv
      refine hKn _ _ (.mt [2] ?_) ?_ ?_
      · (cbv; repeat (refine ⟨rfl, ?_⟩; cbv))
      · simp only [iAt, geti, hAt, rAt, getr, x_add, x_app]
        rw [wr64 (by (first | omega | ((try simp only [nc] at *); (try simp only [Int.ofNat_eq_natCast] at *); omega))) (by (first | omega | ((try simp only [nc] at *); (try simp only [Int.ofNat_eq_natCast] at *); omega))), toNat_succ hk0, take_succ_eq hx, offW_snoc, if_neg hnx]
        refine ⟨by (first | omega | ((try simp only [nc] at *); (try simp only [Int.ofNat_eq_natCast] at *); omega)), by (first | omega | ((try simp only [nc] at *); (try simp only [Int.ofNat_eq_natCast] at *); omega)), ?_⟩
        rw [List.map_append, ho]; rfl
      · simp only [iAt, geti, x_add]
        rw [wr64 (by (first | omega | ((try simp only [nc] at *); (try simp only [Int.ofNat_eq_natCast] at *); omega))) (by (first | omega | ((try simp only [nc] at *); (try simp only [Int.ofNat_eq_natCast] at *); omega)))]
        (first | omega | ((try simp only [nc] at *); (try simp only [Int.ofNat_eq_natCast] at *); omega))
    · simp only [x_not, Bool.not_eq_false'] at h1
      subst h1
      have hnx : x ∈ was := of_decide_eq_true hd
      cbv
      refine hKn _ _ (.mt [0] ?_) ?_ ?_
      · (cbv; repeat (refine ⟨rfl, ?_⟩; cbv))
      · simp only [iAt, geti, hAt, rAt, getr, x_add]
        rw [wr64 (by (first | omega | ((try simp only [nc] at *); (try simp only [Int.ofNat_eq_natCast] at *); omega))) (by (first | omega | ((try simp only [nc] at *); (try simp only [Int.ofNat_eq_natCast] at *); omega))), toNat_succ hk0, take_succ_eq hx, offW_snoc, if_pos hnx, List.append_nil]
        exact ⟨by (first | omega | ((try simp only [nc] at *); (try simp only [Int.ofNat_eq_natCast] at *); omega)), by (first | omega | ((try simp only [nc] at *); (try simp only [Int.ofNat_eq_natCast] at *); omega)), ho⟩
      · simp only [iAt, geti, x_add]
        rw [wr64 (by (first | omega | ((try simp only [nc] at *); (try simp only [Int.ofNat_eq_natCast] at *); omega))) (by (first | omega | ((try simp only [nc] at *); (try simp only [Int.ofNat_eq_natCast] at *); omega)))]
        (first | omega | ((try simp only [nc] at *); (try simp only [Int.ofNat_eq_natCast] at *); omega))
  · simp only [x_lt, x_len, ln, decide_eq_false_iff_not] at h
    rw [List.take_of_length_le (by (first | omega | ((try simp only [nc] at *); (try simp only [Int.ofNat_eq_natCast] at *); omega)))] at ho
    cbv
    refine hKs _ _ (slE ?_)
    exact ho
end Go.SX.Runs
