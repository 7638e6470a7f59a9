/-
  Runs: the fourth law's walk.
-/
import Derived.Test.YtlahdopmiplnoaaYR17
set_option linter.unusedSimpArgs false
set_option linter.unusedVariables false
set_option linter.unusedSectionVars false
namespace Go.SX.Runs
open Go Go.Proofs
def minTo (c : List Int) (k : Nat) : Int := (c.take k).foldl min (c.headD 0)
def maxTo (c : List Int) (k : Nat) : Int := (c.take k).foldl max (c.headD 0)
theorem minTo_succ {c : List Int} {k : Nat} {x : Int} (h : c[k]? = some x) : minTo c (k + 1) = min (minTo c k) x := by
  rw [minTo, minTo, take_succ_eq h, List.foldl_append]; rfl
theorem maxTo_succ {c : List Int} {k : Nat} {x : Int} (h : c[k]? = some x) : maxTo c (k + 1) = max (maxTo c k) x := by
  rw [maxTo, maxTo, take_succ_eq h, List.foldl_append]; rfl
def offL (c : List Int) (a : Int) : List Int := c.filter fun x => !decide (x = a)
theorem offL_snoc (c : List Int) (a x : Int) : offL (c ++ [x]) a = offL c a ++ (if !decide (x = a) then [x] else []) := by
  rw [offL, offL, List.filter_append]
  congr 1
  cases h : (!decide (x = a)) with
  | false => simp only [List.filter_cons, List.filter_nil, h]
  | true => simp only [List.filter_cons, List.filter_nil, h]
theorem offL_len (c : List Int) (a : Int) : (offL c a).length ≤ c.length := List.length_filter_le _ _
structure TogOk (l : List Place) (t : List Bool) (c : List Int) : Prop where
  back : togetherL l c.reverse = togetherL l c
  high : togetherL l c = true → 1 < c.length → togetherL l (offL c (minTo c c.length)) = true
  low : togetherL l c = true → 1 < c.length → togetherL l (offL c (maxTo c c.length)) = true
  part : ∀ r ∈ freeI l t, ∀ a b : Nat, a ≤ b → b < r.length → togetherL l ((r.take (b + 1)).drop a) = true
variable {P : Program} (hP : P = Try.prog)
include hP
set_option maxHeartbeats 8000000 in
theorem law6 {l : List Place} {el : List (List D)} {t : List Bool} {et : List (List D)} {c : List Int} {ec : List (List D)} (w1 w2 w3 : Int) (hw10 : 0 ≤ w1) (hw11 : w1 ≤ 255) (hw20 : 0 ≤ w2) (hw21 : w2 ≤ 255) (hw30 : 0 ≤ w3) (hw31 : w3 ≤ 255) (hel : el = l.map Place.ds) (het : et = t.map dB) (hec : ec = c.map dI)
    (hok : l.length ≤ 60 → orderedP l = true → TogOk l t c) : Fn1 P 6 [.d (.sl el), .d (.sl et), .d (.sl ec), .d (.val (.int .u8 w1)), .d (.val (.int .u8 w2)), .d (.val (.int .u8 w3))] (.b true) := by
  refine .walk (hP ▸ d6_ok) fun K hK => ?_
  have la : (el.length : Int) = l.length := by simp [hel]
  have lc : (ec.length : Int) = c.length := by simp [hec]
  cbv
  refine .f1z (headR hP) rfl rfl ?_
  cbv
  refine .f1z (fewR hP hel het hec) rfl rfl ?_
  generalize hf : (decide (l.length ≤ 60) && _) = f
  cbv
  refine brk (fun h => ?_) (fun h => ?_)
  · cbv; exact hK _ _ rfl
  simp only [x_not, Bool.not_eq_false'] at h
  subst h
  have hl60 : l.length ≤ 60 ∧ t.length ≤ 60 ∧ c.length ≤ 60 := by simpa using hf
  obtain ⟨hl60, _, hc60⟩ := hl60
  clear hf
  cbv
  refine .f1z (orderedR hP hel (by omega)) rfl rfl ?_
  generalize ho : orderedP l = o
  cbv
  refine brk (fun h => ?_) (fun h => ?_)
  · cbv; exact hK _ _ rfl
  simp only [x_not, Bool.not_eq_false'] at h
  subst h
  have hR := hok hl60 ho
  clear hok
  have hfl := freeI_len l t
  have hfm : ∀ r ∈ freeI l t, r ≠ [] ∧ r.length ≤ l.length := fun r hr => ⟨freeI_ne hr, freeI_mem hr⟩
  have hpart := hR.part
  have hback := hR.back
  have hhigh := hR.high
  have hlow := hR.low
  clear hR
  have hww1 : IntKind.i64.wrap w1 = w1 := wr64 (by omega) (by omega)
  have hww2 : IntKind.i64.wrap w2 = w2 := wr64 (by omega) (by omega)
  have hww3 : IntKind.i64.wrap w3 = w3 := wr64 (by omega) (by omega)
  have hfR := freeR hP hel het (by omega)
  have htR := togetherR hP hel hec (by omega) (by omega)
  generalize freeI l t = rs at hfl hfm hpart hfR
  generalize togetherL l c = tg at hback hhigh hlow htR
  obtain ⟨er, her⟩ : ∃ er, er = rs.map dL := ⟨_, rfl⟩
  rw [← her] at hfR
  have lr : (er.length : Int) = rs.length := by simp [her]
  cbv
  refine .intro (ι := List (List D) × Int) (fun k => [.d (.sl el), .d (.sl et), .d (.sl ec), .d (.val (.int .u8 w1)), .d (.val (.int .u8 w2)), .d (.val (.int .u8 w3)), .top, .top, .top, .top, .top, .top, .top, .b true, .hd 0, .i k.2] ++ List.replicate 159 .top) (fun k => [.row 3 1 k.1]) (fun env own => (rAt own (hAt env 14), iAt env 15))
    (fun k => -1 ≤ k.2 ∧ k.2 < c.length ∧ k.1 = ((c.drop (k.2 + 1).toNat).reverse).map dI) (fun k => (k.2 + 1).toNat)
    ([], (Classical.choice ioEx).1.ar .sub .i64 ((Classical.choice ioEx).1.len ec) 1) ?_ (.nilrow 14 3 1 rfl (.mt [0] ?_)) fun k hk Kn hKn => ?_
  · simp only [x_subi, x_len, lc]
    rw [wr64 (by (first | omega | ((try simp only [nc] at *); (try simp only [Int.ofNat_eq_natCast] at *); omega))) (by (first | omega | ((try simp only [nc] at *); (try simp only [Int.ofNat_eq_natCast] at *); omega)))]
    refine ⟨by (first | omega | ((try simp only [nc] at *); (try simp only [Int.ofNat_eq_natCast] at *); omega)), by (first | omega | ((try simp only [nc] at *); (try simp only [Int.ofNat_eq_natCast] at *); omega)), ?_⟩
    rw [List.drop_eq_nil_of_le (by (first | omega | ((try simp only [nc] at *); (try simp only [Int.ofNat_eq_natCast] at *); omega)))]; rfl
  · (cbv; repeat (refine ⟨rfl, ?_⟩; cbv))
  obtain ⟨eb, k⟩ := k
  obtain ⟨hk0, hk1, heb⟩ := hk
  dsimp only at hk0 hk1 heb
  have hebl : eb.length ≤ 60 := by
    rw [heb, List.length_map, List.length_reverse, List.length_drop]; omega
  cbv
  refine brk (fun h => ?_) (fun h => ?_)
  · simp only [x_le, decide_eq_true_eq] at h
    cbv
    refine .map hec h (by (first | omega | ((try simp only [nc] at *); (try simp only [Int.ofNat_eq_natCast] at *); omega))) (fun _ => rfl) fun x hx => ?_
    cbv
    refine .one rfl (by omega) (by decide) ?_
    have e1 : IntKind.i64.wrap (k - 1) = k - 1 := wr64 (by (first | omega | ((try simp only [nc] at *); (try simp only [Int.ofNat_eq_natCast] at *); omega))) (by (first | omega | ((try simp only [nc] at *); (try simp only [Int.ofNat_eq_natCast] at *); omega)))
    cbv
    refine hKn _ _ (.mt [2] ?_) ?_ ?_
    · (cbv; repeat (refine ⟨rfl, ?_⟩; cbv))
    · simp only [iAt, geti, hAt, rAt, getr, x_subi, x_app, e1]
      refine ⟨by (first | omega | ((try simp only [nc] at *); (try simp only [Int.ofNat_eq_natCast] at *); omega)), by (first | omega | ((try simp only [nc] at *); (try simp only [Int.ofNat_eq_natCast] at *); omega)), ?_⟩
      have hxl := (List.getElem?_eq_some_iff.1 hx).1
      rw [show (k - 1 + 1).toNat = k.toNat by (first | omega | ((try simp only [nc] at *); (try simp only [Int.ofNat_eq_natCast] at *); omega)), List.drop_eq_getElem_cons hxl, (List.getElem?_eq_some_iff.1 hx).2, List.reverse_cons, List.map_append, heb, show (k + 1).toNat = k.toNat + 1 by (first | omega | ((try simp only [nc] at *); (try simp only [Int.ofNat_eq_natCast] at *); omega))]; rfl
    · simp only [iAt, geti, x_subi, e1]
      (first | omega | ((try simp only [nc] at *); (try simp only [Int.ofNat_eq_natCast] at *); omega))
  simp only [x_le, decide_eq_false_iff_not] at h
  have heb2 : eb = c.reverse.map dI := by rw [heb, show (k + 1).toNat = 0 by (first | omega | ((try simp only [nc] at *); (try simp only [Int.ofNat_eq_natCast] at *); omega))]; rfl
  have hbR := togetherR hP hel heb2 (by omega) (by rw [List.length_reverse]; omega)
  rw [hback] at hbR
  clear hKn hk0 hk1 heb h hback hebl
  cbv
  refine .f1z htR rfl rfl ?_
  cbv
  refine .f1z hbR rfl rfl ?_
  cbv
  refine brk (fun h => ?_) (fun h => ?_)
  · cbv; simp [x_bne] at h
  clear h hbR heb2
  cbv
  refine brk (fun htg => ?_) (fun htg => ?_)
  · subst htg
    cbv
    refine brk (fun h1 => ?_) (fun h1 => ?_)
    · simp only [x_lt, x_len, lc, decide_eq_true_eq] at h1
      have hc1 : 1 < c.length := by (first | omega | ((try simp only [nc] at *); (try simp only [Int.ofNat_eq_natCast] at *); omega))
      have hhi := hhigh rfl hc1
      have hlo := hlow rfl hc1
      clear hhigh hlow
      cbv
      refine .map hec (Int.le_refl _) (by (first | omega | ((try simp only [nc] at *); (try simp only [Int.ofNat_eq_natCast] at *); omega))) (fun _ => rfl) fun x0 hx0 => ?_
      cbv
      refine .map hec (Int.le_refl _) (by (first | omega | ((try simp only [nc] at *); (try simp only [Int.ofNat_eq_natCast] at *); omega))) (fun _ => rfl) fun x0' hx0' => ?_
      rw [hx0] at hx0'; cases hx0'
      have hhd := head_of hx0
      cbv
      refine .intro (ι := Int × Int × Int) (fun k => [.d (.sl el), .d (.sl et), .d (.sl ec), .d (.val (.int .u8 w1)), .d (.val (.int .u8 w2)), .d (.val (.int .u8 w3)), .top, .top, .top, .top, .top, .top, .top, .b true, .top, .top, .top, .i k.1, .i k.2.1, .i k.2.2] ++ List.replicate 155 .top) (fun _ => []) (fun env _ => (iAt env 17, iAt env 18, iAt env 19))
        (fun k => 0 ≤ k.2.2 ∧ k.2.2 ≤ c.length ∧ k.1 = minTo c k.2.2.toNat ∧ k.2.1 = maxTo c k.2.2.toNat) (fun k => c.length - k.2.2.toNat) (x0, x0, 0) ?_ (.mt [] ?_) fun k hk Kn hKn => ?_
      · exact ⟨Int.le_refl _, Int.natCast_nonneg _, by rw [minTo, hhd]; rfl, by rw [maxTo, hhd]; rfl⟩
      · (cbv; repeat (refine ⟨rfl, ?_⟩; cbv))
      obtain ⟨mi, ma, k⟩ := k
      obtain ⟨hk0, hk1, hmi, hma⟩ := hk
      dsimp only at hk0 hk1 hmi hma
      cbv
      refine brk (fun h => ?_) (fun h => ?_)
      · simp only [x_lt, x_len, lc, decide_eq_true_eq] at h
        cbv
        refine .map hec hk0 h (fun _ => rfl) fun x hx => ?_
        cbv
        refine .map hec hk0 h (fun _ => rfl) fun x' hx' => ?_
        rw [hx] at hx'; cases hx'
        cbv
        refine hKn _ _ (.mt [] ?_) ?_ ?_
        · (cbv; repeat (refine ⟨rfl, ?_⟩; cbv))
        · simp only [iAt, geti, x_add, x_min, x_max]
          rw [wr64 (by (first | omega | ((try simp only [nc] at *); (try simp only [Int.ofNat_eq_natCast] at *); omega))) (by (first | omega | ((try simp only [nc] at *); (try simp only [Int.ofNat_eq_natCast] at *); omega))), toNat_succ hk0, minTo_succ hx, maxTo_succ hx, hmi, hma]
          exact ⟨by (first | omega | ((try simp only [nc] at *); (try simp only [Int.ofNat_eq_natCast] at *); omega)), by (first | omega | ((try simp only [nc] at *); (try simp only [Int.ofNat_eq_natCast] at *); omega)), rfl, rfl⟩
        · simp only [iAt, geti, x_add]
          rw [wr64 (by (first | omega | ((try simp only [nc] at *); (try simp only [Int.ofNat_eq_natCast] at *); omega))) (by (first | omega | ((try simp only [nc] at *); (try simp only [Int.ofNat_eq_natCast] at *); omega)))]
          (first | omega | ((try simp only [nc] at *); (try simp only [Int.ofNat_eq_natCast] at *); omega))
      simp only [x_lt, x_len, lc, decide_eq_false_iff_not] at h
      have hke : k.toNat = c.length := by (first | omega | ((try simp only [nc] at *); (try simp only [Int.ofNat_eq_natCast] at *); omega))
      rw [hke] at hmi hma
      rw [← hmi] at hhi
      rw [← hma] at hlo
      clear hKn hk0 hk1 h hke hmi hma hx0 hhd
      cbv
      refine .intro (ι := List (List D) × List (List D) × Int) (fun k => [.d (.sl el), .d (.sl et), .d (.sl ec), .d (.val (.int .u8 w1)), .d (.val (.int .u8 w2)), .d (.val (.int .u8 w3)), .top, .top, .top, .top, .top, .top, .top, .b true, .top, .top, .top, .i mi, .i ma, .top, .hd 0, .hd 1, .i k.2.2] ++ List.replicate 152 .top) (fun k => [.row 3 1 k.1, .row 3 1 k.2.1]) (fun env own => (rAt own (hAt env 20), rAt own (hAt env 21), iAt env 22))
        (fun k => 0 ≤ k.2.2 ∧ k.2.2 ≤ c.length ∧ k.1 = (offL (c.take k.2.2.toNat) mi).map dI ∧ k.2.1 = (offL (c.take k.2.2.toNat) ma).map dI) (fun k => c.length - k.2.2.toNat) ([], [], 0) ?_ (.nilrow 20 3 1 rfl (.nilrow 21 3 1 rfl (.mt [0, 1] ?_))) fun k hk Kn hKn => ?_
      · exact ⟨Int.le_refl _, Int.natCast_nonneg _, rfl, rfl⟩
      · (cbv; repeat (refine ⟨rfl, ?_⟩; cbv))
      obtain ⟨e1, e2, k⟩ := k
      obtain ⟨hk0, hk1, he1, he2⟩ := hk
      dsimp only at hk0 hk1 he1 he2
      have he1l : e1.length ≤ 60 := by
        have := offL_len (c.take k.toNat) mi
        rw [he1, List.length_map]; rw [List.length_take] at this; omega
      have he2l : e2.length ≤ 60 := by
        have := offL_len (c.take k.toNat) ma
        rw [he2, List.length_map]; rw [List.length_take] at this; omega
      cbv
      refine brk (fun h => ?_) (fun h => ?_)
      · simp only [x_lt, x_len, lc, decide_eq_true_eq] at h
        cbv
        refine .map hec hk0 h (fun _ => rfl) fun x hx => ?_
        have fin1 : (offL (c.take (k.toNat + 1)) mi).map dI = e1 ++ (if !decide (x = mi) then [x] else []).map dI := by
          rw [take_succ_eq hx, offL_snoc, List.map_append, he1]
        have fin2 : (offL (c.take (k.toNat + 1)) ma).map dI = e2 ++ (if !decide (x = ma) then [x] else []).map dI := by
          rw [take_succ_eq hx, offL_snoc, List.map_append, he2]
        cbv
        refine brk (fun h2 => ?_) (fun h2 => ?_)
        · simp only [x_eq, x_not] at h2
          rw [h2] at fin1
          cbv
          refine .map hec hk0 h (fun _ => rfl) fun x' hx' => ?_
          rw [hx] at hx'; cases hx'
          cbv
          refine .one rfl (by omega) (by decide) ?_
          cbv
          refine .map hec hk0 h (fun _ => rfl) fun x' hx' => ?_
          rw [hx] at hx'; cases hx'
          cbv
          refine brk (fun h3 => ?_) (fun h3 => ?_)
          · simp only [x_eq, x_not] at h3
            rw [h3] at fin2
            cbv
            refine .map hec hk0 h (fun _ => rfl) fun x' hx' => ?_
            rw [hx] at hx'; cases hx'
            cbv
            refine .one rfl (by omega) (by decide) ?_
            cbv
            refine hKn _ _ (.mt [3, 5] ?_) ?_ ?_
            · (cbv; repeat (refine ⟨rfl, ?_⟩; cbv))
            · simp only [iAt, geti, hAt, rAt, getr, x_add, x_app]
              rw [wr64 (by (first | omega | ((try simp only [nc] at *); (try simp only [Int.ofNat_eq_natCast] at *); omega))) (by (first | omega | ((try simp only [nc] at *); (try simp only [Int.ofNat_eq_natCast] at *); omega))), toNat_succ hk0, fin1, fin2]
              exact ⟨by (first | omega | ((try simp only [nc] at *); (try simp only [Int.ofNat_eq_natCast] at *); omega)), by (first | omega | ((try simp only [nc] at *); (try simp only [Int.ofNat_eq_natCast] at *); omega)), rfl, rfl⟩
            · simp only [iAt, geti, x_add]
              rw [wr64 (by (first | omega | ((try simp only [nc] at *); (try simp only [Int.ofNat_eq_natCast] at *); omega))) (by (first | omega | ((try simp only [nc] at *); (try simp only [Int.ofNat_eq_natCast] at *); omega)))]
              (first | omega | ((try simp only [nc] at *); (try simp only [Int.ofNat_eq_natCast] at *); omega))
          · simp only [x_eq, x_not] at h3
            rw [h3] at fin2
            cbv
            refine hKn _ _ (.mt [3, 1] ?_) ?_ ?_
            · (cbv; repeat (refine ⟨rfl, ?_⟩; cbv))
            · simp only [iAt, geti, hAt, rAt, getr, x_add, x_app]
              rw [wr64 (by (first | omega | ((try simp only [nc] at *); (try simp only [Int.ofNat_eq_natCast] at *); omega))) (by (first | omega | ((try simp only [nc] at *); (try simp only [Int.ofNat_eq_natCast] at *); omega))), toNat_succ hk0, fin1, fin2]
              exact ⟨by (first | omega | ((try simp only [nc] at *); (try simp only [Int.ofNat_eq_natCast] at *); omega)), by (first | omega | ((try simp only [nc] at *); (try simp only [Int.ofNat_eq_natCast] at *); omega)), rfl, (List.append_nil _).symm⟩
            · simp only [iAt, geti, x_add]
              rw [wr64 (by (first | omega | ((try simp only [nc] at *); (try simp only [Int.ofNat_eq_natCast] at *); omega))) (by (first | omega | ((try simp only [nc] at *); (try simp only [Int.ofNat_eq_natCast] at *); omega)))]
              (first | omega | ((try simp only [nc] at *); (try simp only [Int.ofNat_eq_natCast] at *); omega))

        · simp only [x_eq, x_not] at h2
          rw [h2] at fin1
          cbv
          refine .map hec hk0 h (fun _ => rfl) fun x' hx' => ?_
          rw [hx] at hx'; cases hx'
          cbv
          refine brk (fun h3 => ?_) (fun h3 => ?_)
          · simp only [x_eq, x_not] at h3
            rw [h3] at fin2
            cbv
            refine .map hec hk0 h (fun _ => rfl) fun x' hx' => ?_
            rw [hx] at hx'; cases hx'
            cbv
            refine .one rfl (by omega) (by decide) ?_
            cbv
            refine hKn _ _ (.mt [0, 3] ?_) ?_ ?_
            · (cbv; repeat (refine ⟨rfl, ?_⟩; cbv))
            · simp only [iAt, geti, hAt, rAt, getr, x_add, x_app]
              rw [wr64 (by (first | omega | ((try simp only [nc] at *); (try simp only [Int.ofNat_eq_natCast] at *); omega))) (by (first | omega | ((try simp only [nc] at *); (try simp only [Int.ofNat_eq_natCast] at *); omega))), toNat_succ hk0, fin1, fin2]
              exact ⟨by (first | omega | ((try simp only [nc] at *); (try simp only [Int.ofNat_eq_natCast] at *); omega)), by (first | omega | ((try simp only [nc] at *); (try simp only [Int.ofNat_eq_natCast] at *); omega)), (List.append_nil _).symm, rfl⟩
            · simp only [iAt, geti, x_add]
              rw [wr64 (by (first | omega | ((try simp only [nc] at *); (try simp only [Int.ofNat_eq_natCast] at *); omega))) (by (first | omega | ((try simp only [nc] at *); (try simp only [Int.ofNat_eq_natCast] at *); omega)))]
              (first | omega | ((try simp only [nc] at *); (try simp only [Int.ofNat_eq_natCast] at *); omega))
          · simp only [x_eq, x_not] at h3
            rw [h3] at fin2
            cbv
            refine hKn _ _ (.mt [0, 1] ?_) ?_ ?_
            · (cbv; repeat (refine ⟨rfl, ?_⟩; cbv))
            · simp only [iAt, geti, hAt, rAt, getr, x_add, x_app]
              rw [wr64 (by (first | omega | ((try simp only [nc] at *); (try simp only [Int.ofNat_eq_natCast] at *); omega))) (by (first | omega | ((try simp only [nc] at *); (try simp only [Int.ofNat_eq_natCast] at *); omega))), toNat_succ hk0, fin1, fin2]
              exact ⟨by (first | omega | ((try simp only [nc] at *); (try simp only [Int.ofNat_eq_natCast] at *); omega)), by (first | omega | ((try simp only [nc] at *); (try simp only [Int.ofNat_eq_natCast] at *); omega)), (List.append_nil _).symm, (List.append_nil _).symm⟩
            · simp only [iAt, geti, x_add]
              rw [wr64 (by (first | omega | ((try simp only [nc] at *); (try simp only [Int.ofNat_eq_natCast] at *); omega))) (by (first | omega | ((try simp only [nc] at *); (try simp only [Int.ofNat_eq_natCast] at *); omega)))]
              (first | omega | ((try simp only [nc] at *); (try simp only [Int.ofNat_eq_natCast] at *); omega))

      simp only [x_lt, x_len, lc, decide_eq_false_iff_not] at h
      rw [List.take_of_length_le (by (first | omega | ((try simp only [nc] at *); (try simp only [Int.ofNat_eq_natCast] at *); omega)))] at he1 he2
      have hl1 := offL_len c mi
      have hl2 := offL_len c ma
      have hR1 := togetherR hP hel he1 (by omega) (by omega)
      have hR2 := togetherR hP hel he2 (by omega) (by omega)
      rw [hhi] at hR1
      rw [hlo] at hR2
      clear hKn hk0 hk1 h he1 he2 hl1 hl2 hhi hlo he1l he2l
      cbv
      refine .f1z hR1 rfl rfl ?_
      cbv
      refine brk (fun h => ?_) (fun h => ?_)
      · cbv; simp [x_not] at h
      clear h
      cbv
      refine .f1z hR2 rfl rfl ?_
      cbv
      refine brk (fun h => ?_) (fun h => ?_)
      · cbv; simp [x_not] at h
      clear h hR1 hR2
      cbv
      refine .f1z hfR rfl rfl ?_
      cbv
      refine brk (fun h => ?_) (fun h => ?_)
      · cbv; exact hK _ _ rfl
      simp only [x_eq, x_len, lr, decide_eq_false_iff_not] at h
      cbv
      refine ⟨by simp only [x_len, lr]; exact h, ?_⟩
      have hix0 : 0 ≤ w1.tmod rs.length := Int.tmod_nonneg _ hw10
      have hix1 : w1.tmod rs.length < rs.length := Int.tmod_lt_of_pos _ (by (first | omega | ((try simp only [nc] at *); (try simp only [Int.ofNat_eq_natCast] at *); omega)))
      cbv
      refine .lists her (by simp only [x_rem, x_wrap, x_len, lr, hww1]; exact hix0) (by simp only [x_rem, x_wrap, x_len, lr, hww1]; exact hix1) fun r y hr hy => ?_
      have hrm := List.mem_of_getElem? hr
      obtain ⟨hr1, hr2⟩ := hfm r hrm
      have hr3 : 0 < r.length := List.length_pos_iff.2 hr1
      have ly : (y.length : Int) = r.length := by simp [hy]
      have hp := hpart r hrm
      clear h hix0 hix1 hr hpart
      cbv
      refine brk (fun h => ?_) (fun h => ?_)
      · cbv; simp only [x_eq, x_len, ly, decide_eq_true_eq] at h; exfalso; (first | omega | ((try simp only [nc] at *); (try simp only [Int.ofNat_eq_natCast] at *); omega))
      clear h
      cbv
      refine ⟨by simp only [x_len, ly]; (first | omega | ((try simp only [nc] at *); (try simp only [Int.ofNat_eq_natCast] at *); omega)), ?_⟩
      have ha0 : 0 ≤ w2.tmod r.length := Int.tmod_nonneg _ hw20
      have ha1 : w2.tmod r.length < r.length := Int.tmod_lt_of_pos _ (by (first | omega | ((try simp only [nc] at *); (try simp only [Int.ofNat_eq_natCast] at *); omega)))
      have hb0 : 0 ≤ w3.tmod (r.length - w2.tmod r.length) := Int.tmod_nonneg _ hw30
      have hb1 : w3.tmod (r.length - w2.tmod r.length) < r.length - w2.tmod r.length := Int.tmod_lt_of_pos _ (by (first | omega | ((try simp only [nc] at *); (try simp only [Int.ofNat_eq_natCast] at *); omega)))
      have hfr : (Classical.choice ioEx).1.rem ((Classical.choice ioEx).1.wrap .i64 w2) ((Classical.choice ioEx).1.len y) = w2.tmod r.length := by
        simp only [x_rem, x_wrap, x_len, ly, hww2]
      have hsb : (Classical.choice ioEx).1.ar .sub .i64 ((Classical.choice ioEx).1.len y) ((Classical.choice ioEx).1.rem ((Classical.choice ioEx).1.wrap .i64 w2) ((Classical.choice ioEx).1.len y)) = r.length - w2.tmod r.length := by
        rw [hfr]; simp only [x_subi, x_len, ly]; rw [wr64 (by (first | omega | ((try simp only [nc] at *); (try simp only [Int.ofNat_eq_natCast] at *); omega))) (by (first | omega | ((try simp only [nc] at *); (try simp only [Int.ofNat_eq_natCast] at *); omega)))]
      generalize hA : w2.tmod r.length = A at ha0 ha1 hb0 hb1 hfr hsb
      generalize hB : w3.tmod (r.length - A) = B at hb0 hb1
      have hto : (Classical.choice ioEx).1.ar .add .i64 ((Classical.choice ioEx).1.rem ((Classical.choice ioEx).1.wrap .i64 w2) ((Classical.choice ioEx).1.len y)) ((Classical.choice ioEx).1.rem ((Classical.choice ioEx).1.wrap .i64 w3) ((Classical.choice ioEx).1.ar .sub .i64 ((Classical.choice ioEx).1.len y) ((Classical.choice ioEx).1.rem ((Classical.choice ioEx).1.wrap .i64 w2) ((Classical.choice ioEx).1.len y)))) = A + B := by
        rw [hsb, hfr, x_rem, x_wrap, hww3, x_add]
        rw [show w3.tmod (↑r.length - A) = B from hB]
        exact wr64 (by (first | omega | ((try simp only [nc] at *); (try simp only [Int.ofNat_eq_natCast] at *); omega))) (by (first | omega | ((try simp only [nc] at *); (try simp only [Int.ofNat_eq_natCast] at *); omega)))
      have hhi : (Classical.choice ioEx).1.ar .add .i64 ((Classical.choice ioEx).1.ar .add .i64 ((Classical.choice ioEx).1.rem ((Classical.choice ioEx).1.wrap .i64 w2) ((Classical.choice ioEx).1.len y)) ((Classical.choice ioEx).1.rem ((Classical.choice ioEx).1.wrap .i64 w3) ((Classical.choice ioEx).1.ar .sub .i64 ((Classical.choice ioEx).1.len y) ((Classical.choice ioEx).1.rem ((Classical.choice ioEx).1.wrap .i64 w2) ((Classical.choice ioEx).1.len y))))) 1 = A + B + 1 := by
        rw [hto, x_add]; exact wr64 (by (first | omega | ((try simp only [nc] at *); (try simp only [Int.ofNat_eq_natCast] at *); omega))) (by (first | omega | ((try simp only [nc] at *); (try simp only [Int.ofNat_eq_natCast] at *); omega)))
      have lyA : A + B + 1 ≤ (y.length : Int) := by (first | omega | ((try simp only [nc] at *); (try simp only [Int.ofNat_eq_natCast] at *); omega))
      have q1 := hfr.symm ▸ ha0
      have q2 : (Classical.choice ioEx).1.rem ((Classical.choice ioEx).1.wrap .i64 w2) ((Classical.choice ioEx).1.len y) ≤ (Classical.choice ioEx).1.ar .add .i64 ((Classical.choice ioEx).1.ar .add .i64 ((Classical.choice ioEx).1.rem ((Classical.choice ioEx).1.wrap .i64 w2) ((Classical.choice ioEx).1.len y)) ((Classical.choice ioEx).1.rem ((Classical.choice ioEx).1.wrap .i64 w3) ((Classical.choice ioEx).1.ar .sub .i64 ((Classical.choice ioEx).1.len y) ((Classical.choice ioEx).1.rem ((Classical.choice ioEx).1.wrap .i64 w2) ((Classical.choice ioEx).1.len y))))) 1 := by
        rw [hhi, hfr]; (first | omega | ((try simp only [nc] at *); (try simp only [Int.ofNat_eq_natCast] at *); omega))
      have q3 := hhi.symm ▸ lyA
      cbv
      refine ⟨fun e => ?_, ?_⟩
      · have := hsb.symm.trans e; (first | omega | ((try simp only [nc] at *); (try simp only [Int.ofNat_eq_natCast] at *); omega))
      cbv
      refine ⟨?_, ?_, ?_, ?_, ?_⟩
      · exact q1
      · exact q2
      · exact q3
      · intro ds hds; rw [hy] at hds; obtain ⟨z, _, rfl⟩ := List.mem_map.1 hds; rfl
      have hsub : (Classical.choice ioEx).1.sub y ((Classical.choice ioEx).1.rem ((Classical.choice ioEx).1.wrap .i64 w2) ((Classical.choice ioEx).1.len y)) ((Classical.choice ioEx).1.ar .add .i64 ((Classical.choice ioEx).1.ar .add .i64 ((Classical.choice ioEx).1.rem ((Classical.choice ioEx).1.wrap .i64 w2) ((Classical.choice ioEx).1.len y)) ((Classical.choice ioEx).1.rem ((Classical.choice ioEx).1.wrap .i64 w3) ((Classical.choice ioEx).1.ar .sub .i64 ((Classical.choice ioEx).1.len y) ((Classical.choice ioEx).1.rem ((Classical.choice ioEx).1.wrap .i64 w2) ((Classical.choice ioEx).1.len y))))) 1) = ((r.take ((A + B).toNat + 1)).drop A.toNat).map dI := by
        rw [x_sub, hhi, hfr, hy, List.map_drop, List.map_take, show (A + B + 1).toNat = (A + B).toNat + 1 by (first | omega | ((try simp only [nc] at *); (try simp only [Int.ofNat_eq_natCast] at *); omega))]
      have hlast := hp A.toNat (A + B).toNat (by (first | omega | ((try simp only [nc] at *); (try simp only [Int.ofNat_eq_natCast] at *); omega))) (by (first | omega | ((try simp only [nc] at *); (try simp only [Int.ofNat_eq_natCast] at *); omega)))
      have hpl : ((r.take ((A + B).toNat + 1)).drop A.toNat).length ≤ 1000000000 := by rw [List.length_drop, List.length_take]; (first | omega | ((try simp only [nc] at *); (try simp only [Int.ofNat_eq_natCast] at *); omega))
      have hfin := togetherR hP hel hsub (by omega) hpl
      rw [hlast] at hfin
      clear hlast hsub hpl hhi hto hA hB hsb hfr q1 q2 q3
      cbv
      refine .f1z hfin rfl rfl ?_
      cbv
      exact hK _ _ rfl

    · clear h1
      cbv
      refine .f1z hfR rfl rfl ?_
      cbv
      refine brk (fun h => ?_) (fun h => ?_)
      · cbv; exact hK _ _ rfl
      simp only [x_eq, x_len, lr, decide_eq_false_iff_not] at h
      cbv
      refine ⟨by simp only [x_len, lr]; exact h, ?_⟩
      have hix0 : 0 ≤ w1.tmod rs.length := Int.tmod_nonneg _ hw10
      have hix1 : w1.tmod rs.length < rs.length := Int.tmod_lt_of_pos _ (by (first | omega | ((try simp only [nc] at *); (try simp only [Int.ofNat_eq_natCast] at *); omega)))
      cbv
      refine .lists her (by simp only [x_rem, x_wrap, x_len, lr, hww1]; exact hix0) (by simp only [x_rem, x_wrap, x_len, lr, hww1]; exact hix1) fun r y hr hy => ?_
      have hrm := List.mem_of_getElem? hr
      obtain ⟨hr1, hr2⟩ := hfm r hrm
      have hr3 : 0 < r.length := List.length_pos_iff.2 hr1
      have ly : (y.length : Int) = r.length := by simp [hy]
      have hp := hpart r hrm
      clear h hix0 hix1 hr hpart
      cbv
      refine brk (fun h => ?_) (fun h => ?_)
      · cbv; simp only [x_eq, x_len, ly, decide_eq_true_eq] at h; exfalso; (first | omega | ((try simp only [nc] at *); (try simp only [Int.ofNat_eq_natCast] at *); omega))
      clear h
      cbv
      refine ⟨by simp only [x_len, ly]; (first | omega | ((try simp only [nc] at *); (try simp only [Int.ofNat_eq_natCast] at *); omega)), ?_⟩
      have ha0 : 0 ≤ w2.tmod r.length := Int.tmod_nonneg _ hw20
      have ha1 : w2.tmod r.length < r.length := Int.tmod_lt_of_pos _ (by (first | omega | ((try simp only [nc] at *); (try simp only [Int.ofNat_eq_natCast] at *); omega)))
      have hb0 : 0 ≤ w3.tmod (r.length - w2.tmod r.length) := Int.tmod_nonneg _ hw30
      have hb1 : w3.tmod (r.length - w2.tmod r.length) < r.length - w2.tmod r.length := Int.tmod_lt_of_pos _ (by (first | omega | ((try simp only [nc] at *); (try simp only [Int.ofNat_eq_natCast] at *); omega)))
      have hfr : (Classical.choice ioEx).1.rem ((Classical.choice ioEx).1.wrap .i64 w2) ((Classical.choice ioEx).1.len y) = w2.tmod r.length := by
        simp only [x_rem, x_wrap, x_len, ly, hww2]
      have hsb : (Classical.choice ioEx).1.ar .sub .i64 ((Classical.choice ioEx).1.len y) ((Classical.choice ioEx).1.rem ((Classical.choice ioEx).1.wrap .i64 w2) ((Classical.choice ioEx).1.len y)) = r.length - w2.tmod r.length := by
        rw [hfr]; simp only [x_subi, x_len, ly]; rw [wr64 (by (first | omega | ((try simp only [nc] at *); (try simp only [Int.ofNat_eq_natCast] at *); omega))) (by (first | omega | ((try simp only [nc] at *); (try simp only [Int.ofNat_eq_natCast] at *); omega)))]
      generalize hA : w2.tmod r.length = A at ha0 ha1 hb0 hb1 hfr hsb
      generalize hB : w3.tmod (r.length - A) = B at hb0 hb1
      have hto : (Classical.choice ioEx).1.ar .add .i64 ((Classical.choice ioEx).1.rem ((Classical.choice ioEx).1.wrap .i64 w2) ((Classical.choice ioEx).1.len y)) ((Classical.choice ioEx).1.rem ((Classical.choice ioEx).1.wrap .i64 w3) ((Classical.choice ioEx).1.ar .sub .i64 ((Classical.choice ioEx).1.len y) ((Classical.choice ioEx).1.rem ((Classical.choice ioEx).1.wrap .i64 w2) ((Classical.choice ioEx).1.len y)))) = A + B := by
        rw [hsb, hfr, x_rem, x_wrap, hww3, x_add]
        rw [show w3.tmod (↑r.length - A) = B from hB]
        exact wr64 (by (first | omega | ((try simp only [nc] at *); (try simp only [Int.ofNat_eq_natCast] at *); omega))) (by (first | omega | ((try simp only [nc] at *); (try simp only [Int.ofNat_eq_natCast] at *); omega)))
      have hhi : (Classical.choice ioEx).1.ar .add .i64 ((Classical.choice ioEx).1.ar .add .i64 ((Classical.choice ioEx).1.rem ((Classical.choice ioEx).1.wrap .i64 w2) ((Classical.choice ioEx).1.len y)) ((Classical.choice ioEx).1.rem ((Classical.choice ioEx).1.wrap .i64 w3) ((Classical.choice ioEx).1.ar .sub .i64 ((Classical.choice ioEx).1.len y) ((Classical.choice ioEx).1.rem ((Classical.choice ioEx).1.wrap .i64 w2) ((Classical.choice ioEx).1.len y))))) 1 = A + B + 1 := by
        rw [hto, x_add]; exact wr64 (by (first | omega | ((try simp only [nc] at *); (try simp only [Int.ofNat_eq_natCast] at *); omega))) (by (first | omega | ((try simp only [nc] at *); (try simp only [Int.ofNat_eq_natCast] at *); omega)))
      have lyA : A + B + 1 ≤ (y.length : Int) := by (first | omega | ((try simp only [nc] at *); (try simp only [Int.ofNat_eq_natCast] at *); omega))
      have q1 := hfr.symm ▸ ha0
      have q2 : (Classical.choice ioEx).1.rem ((Classical.choice ioEx).1.wrap .i64 w2) ((Classical.choice ioEx).1.len y) ≤ (Classical.choice ioEx).1.ar .add .i64 ((Classical.choice ioEx).1.ar .add .i64 ((Classical.choice ioEx).1.rem ((Classical.choice ioEx).1.wrap .i64 w2) ((Classical.choice ioEx).1.len y)) ((Classical.choice ioEx).1.rem ((Classical.choice ioEx).1.wrap .i64 w3) ((Classical.choice ioEx).1.ar .sub .i64 ((Classical.choice ioEx).1.len y) ((Classical.choice ioEx).1.rem ((Classical.choice ioEx).1.wrap .i64 w2) ((Classical.choice ioEx).1.len y))))) 1 := by
        rw [hhi, hfr]; (first | omega | ((try simp only [nc] at *); (try simp only [Int.ofNat_eq_natCast] at *); omega))
      have q3 := hhi.symm ▸ lyA
      cbv
      refine ⟨fun e => ?_, ?_⟩
      · have := hsb.symm.trans e; (first | omega | ((try simp only [nc] at *); (try simp only [Int.ofNat_eq_natCast] at *); omega))
      cbv
      refine ⟨?_, ?_, ?_, ?_, ?_⟩
      · exact q1
      · exact q2
      · exact q3
      · intro ds hds; rw [hy] at hds; obtain ⟨z, _, rfl⟩ := List.mem_map.1 hds; rfl
      have hsub : (Classical.choice ioEx).1.sub y ((Classical.choice ioEx).1.rem ((Classical.choice ioEx).1.wrap .i64 w2) ((Classical.choice ioEx).1.len y)) ((Classical.choice ioEx).1.ar .add .i64 ((Classical.choice ioEx).1.ar .add .i64 ((Classical.choice ioEx).1.rem ((Classical.choice ioEx).1.wrap .i64 w2) ((Classical.choice ioEx).1.len y)) ((Classical.choice ioEx).1.rem ((Classical.choice ioEx).1.wrap .i64 w3) ((Classical.choice ioEx).1.ar .sub .i64 ((Classical.choice ioEx).1.len y) ((Classical.choice ioEx).1.rem ((Classical.choice ioEx).1.wrap .i64 w2) ((Classical.choice ioEx).1.len y))))) 1) = ((r.take ((A + B).toNat + 1)).drop A.toNat).map dI := by
        rw [x_sub, hhi, hfr, hy, List.map_drop, List.map_take, show (A + B + 1).toNat = (A + B).toNat + 1 by (first | omega | ((try simp only [nc] at *); (try simp only [Int.ofNat_eq_natCast] at *); omega))]
      have hlast := hp A.toNat (A + B).toNat (by (first | omega | ((try simp only [nc] at *); (try simp only [Int.ofNat_eq_natCast] at *); omega))) (by (first | omega | ((try simp only [nc] at *); (try simp only [Int.ofNat_eq_natCast] at *); omega)))
      have hpl : ((r.take ((A + B).toNat + 1)).drop A.toNat).length ≤ 1000000000 := by rw [List.length_drop, List.length_take]; (first | omega | ((try simp only [nc] at *); (try simp only [Int.ofNat_eq_natCast] at *); omega))
      have hfin := togetherR hP hel hsub (by omega) hpl
      rw [hlast] at hfin
      clear hlast hsub hpl hhi hto hA hB hsb hfr q1 q2 q3
      cbv
      refine .f1z hfin rfl rfl ?_
      cbv
      exact hK _ _ rfl

  · cbv
    refine .f1z hfR rfl rfl ?_
    cbv
    refine brk (fun h => ?_) (fun h => ?_)
    · cbv; exact hK _ _ rfl
    simp only [x_eq, x_len, lr, decide_eq_false_iff_not] at h
    cbv
    refine ⟨by simp only [x_len, lr]; exact h, ?_⟩
    have hix0 : 0 ≤ w1.tmod rs.length := Int.tmod_nonneg _ hw10
    have hix1 : w1.tmod rs.length < rs.length := Int.tmod_lt_of_pos _ (by (first | omega | ((try simp only [nc] at *); (try simp only [Int.ofNat_eq_natCast] at *); omega)))
    cbv
    refine .lists her (by simp only [x_rem, x_wrap, x_len, lr, hww1]; exact hix0) (by simp only [x_rem, x_wrap, x_len, lr, hww1]; exact hix1) fun r y hr hy => ?_
    have hrm := List.mem_of_getElem? hr
    obtain ⟨hr1, hr2⟩ := hfm r hrm
    have hr3 : 0 < r.length := List.length_pos_iff.2 hr1
    have ly : (y.length : Int) = r.length := by simp [hy]
    have hp := hpart r hrm
    clear h hix0 hix1 hr hpart
    cbv
    refine brk (fun h => ?_) (fun h => ?_)
    · cbv; simp only [x_eq, x_len, ly, decide_eq_true_eq] at h; exfalso; (first | omega | ((try simp only [nc] at *); (try simp only [Int.ofNat_eq_natCast] at *); omega))
    clear h
    cbv
    refine ⟨by simp only [x_len, ly]; (first | omega | ((try simp only [nc] at *); (try simp only [Int.ofNat_eq_natCast] at *); omega)), ?_⟩
    have ha0 : 0 ≤ w2.tmod r.length := Int.tmod_nonneg _ hw20
    have ha1 : w2.tmod r.length < r.length := Int.tmod_lt_of_pos _ (by (first | omega | ((try simp only [nc] at *); (try simp only [Int.ofNat_eq_natCast] at *); omega)))
    have hb0 : 0 ≤ w3.tmod (r.length - w2.tmod r.length) := Int.tmod_nonneg _ hw30
    have hb1 : w3.tmod (r.length - w2.tmod r.length) < r.length - w2.tmod r.length := Int.tmod_lt_of_pos _ (by (first | omega | ((try simp only [nc] at *); (try simp only [Int.ofNat_eq_natCast] at *); omega)))
    have hfr : (Classical.choice ioEx).1.rem ((Classical.choice ioEx).1.wrap .i64 w2) ((Classical.choice ioEx).1.len y) = w2.tmod r.length := by
      simp only [x_rem, x_wrap, x_len, ly, hww2]
    have hsb : (Classical.choice ioEx).1.ar .sub .i64 ((Classical.choice ioEx).1.len y) ((Classical.choice ioEx).1.rem ((Classical.choice ioEx).1.wrap .i64 w2) ((Classical.choice ioEx).1.len y)) = r.length - w2.tmod r.length := by
      rw [hfr]; simp only [x_subi, x_len, ly]; rw [wr64 (by (first | omega | ((try simp only [nc] at *); (try simp only [Int.ofNat_eq_natCast] at *); omega))) (by (first | omega | ((try simp only [nc] at *); (try simp only [Int.ofNat_eq_natCast] at *); omega)))]
    generalize hA : w2.tmod r.length = A at ha0 ha1 hb0 hb1 hfr hsb
    generalize hB : w3.tmod (r.length - A) = B at hb0 hb1
    have hto : (Classical.choice ioEx).1.ar .add .i64 ((Classical.choice ioEx).1.rem ((Classical.choice ioEx).1.wrap .i64 w2) ((Classical.choice ioEx).1.len y)) ((Classical.choice ioEx).1.rem ((Classical.choice ioEx).1.wrap .i64 w3) ((Classical.choice ioEx).1.ar .sub .i64 ((Classical.choice ioEx).1.len y) ((Classical.choice ioEx).1.rem ((Classical.choice ioEx).1.wrap .i64 w2) ((Classical.choice ioEx).1.len y)))) = A + B := by
      rw [hsb, hfr, x_rem, x_wrap, hww3, x_add]
      rw [show w3.tmod (↑r.length - A) = B from hB]
      exact wr64 (by (first | omega | ((try simp only [nc] at *); (try simp only [Int.ofNat_eq_natCast] at *); omega))) (by (first | omega | ((try simp only [nc] at *); (try simp only [Int.ofNat_eq_natCast] at *); omega)))
    have hhi : (Classical.choice ioEx).1.ar .add .i64 ((Classical.choice ioEx).1.ar .add .i64 ((Classical.choice ioEx).1.rem ((Classical.choice ioEx).1.wrap .i64 w2) ((Classical.choice ioEx).1.len y)) ((Classical.choice ioEx).1.rem ((Classical.choice ioEx).1.wrap .i64 w3) ((Classical.choice ioEx).1.ar .sub .i64 ((Classical.choice ioEx).1.len y) ((Classical.choice ioEx).1.rem ((Classical.choice ioEx).1.wrap .i64 w2) ((Classical.choice ioEx).1.len y))))) 1 = A + B + 1 := by
      rw [hto, x_add]; exact wr64 (by (first | omega | ((try simp only [nc] at *); (try simp only [Int.ofNat_eq_natCast] at *); omega))) (by (first | omega | ((try simp only [nc] at *); (try simp only [Int.ofNat_eq_natCast] at *); omega)))
    have lyA : A + B + 1 ≤ (y.length : Int) := by (first | omega | ((try simp only [nc] at *); (try simp only [Int.ofNat_eq_natCast] at *); omega))
    have q1 := hfr.symm ▸ ha0
    have q2 : (Classical.choice ioEx).1.rem ((Classical.choice ioEx).1.wrap .i64 w2) ((Classical.choice ioEx).1.len y) ≤ (Classical.choice ioEx).1.ar .add .i64 ((Classical.choice ioEx).1.ar .add .i64 ((Classical.choice ioEx).1.rem ((Classical.choice ioEx).1.wrap .i64 w2) ((Classical.choice ioEx).1.len y)) ((Classical.choice ioEx).1.rem ((Classical.choice ioEx).1.wrap .i64 w3) ((Classical.choice ioEx).1.ar .sub .i64 ((Classical.choice ioEx).1.len y) ((Classical.choice ioEx).1.rem ((Classical.choice ioEx).1.wrap .i64 w2) ((Classical.choice ioEx).1.len y))))) 1 := by
      rw [hhi, hfr]; (first | omega | ((try simp only [nc] at *); (try simp only [Int.ofNat_eq_natCast] at *); omega))
    have q3 := hhi.symm ▸ lyA
    cbv
    refine ⟨fun e => ?_, ?_⟩
    · have := hsb.symm.trans e; (first | omega | ((try simp only [nc] at *); (try simp only [Int.ofNat_eq_natCast] at *); omega))
    cbv
    refine ⟨?_, ?_, ?_, ?_, ?_⟩
    · exact q1
    · exact q2
    · exact q3
    · intro ds hds; rw [hy] at hds; obtain ⟨z, _, rfl⟩ := List.mem_map.1 hds; rfl
    have hsub : (Classical.choice ioEx).1.sub y ((Classical.choice ioEx).1.rem ((Classical.choice ioEx).1.wrap .i64 w2) ((Classical.choice ioEx).1.len y)) ((Classical.choice ioEx).1.ar .add .i64 ((Classical.choice ioEx).1.ar .add .i64 ((Classical.choice ioEx).1.rem ((Classical.choice ioEx).1.wrap .i64 w2) ((Classical.choice ioEx).1.len y)) ((Classical.choice ioEx).1.rem ((Classical.choice ioEx).1.wrap .i64 w3) ((Classical.choice ioEx).1.ar .sub .i64 ((Classical.choice ioEx).1.len y) ((Classical.choice ioEx).1.rem ((Classical.choice ioEx).1.wrap .i64 w2) ((Classical.choice ioEx).1.len y))))) 1) = ((r.take ((A + B).toNat + 1)).drop A.toNat).map dI := by
      rw [x_sub, hhi, hfr, hy, List.map_drop, List.map_take, show (A + B + 1).toNat = (A + B).toNat + 1 by (first | omega | ((try simp only [nc] at *); (try simp only [Int.ofNat_eq_natCast] at *); omega))]
    have hlast := hp A.toNat (A + B).toNat (by (first | omega | ((try simp only [nc] at *); (try simp only [Int.ofNat_eq_natCast] at *); omega))) (by (first | omega | ((try simp only [nc] at *); (try simp only [Int.ofNat_eq_natCast] at *); omega)))
    have hpl : ((r.take ((A + B).toNat + 1)).drop A.toNat).length ≤ 1000000000 := by rw [List.length_drop, List.length_take]; (first | omega | ((try simp only [nc] at *); (try simp only [Int.ofNat_eq_natCast] at *); omega))
    have hfin := togetherR hP hel hsub (by omega) hpl
    rw [hlast] at hfin
    clear hlast hsub hpl hhi hto hA hB hsb hfr q1 q2 q3
    cbv
    refine .f1z hfin rfl rfl ?_
    cbv
    exact hK _ _ rfl

end Go.SX.Runs
