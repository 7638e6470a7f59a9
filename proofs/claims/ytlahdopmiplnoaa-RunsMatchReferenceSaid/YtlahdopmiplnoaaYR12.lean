/-
  Runs: the elements of a list, sorted; a copy of a list.
-/
import Derived.Test.YtlahdopmiplnoaaYR9
import Derived.Test.YtlahdopmiplnoaaYYtShelf
import Derived.Test.YtlahdopmiplnoaaYSxS
set_option linter.unusedSimpArgs false
set_option linter.unusedVariables false
set_option linter.unusedSectionVars false
namespace Go.SX.Runs
open Go Go.Proofs Go.RowKit Go.Sort
theorem ok35 : okFn Try.prog 35 = true := by kernel_rfl
theorem ok38 : okFn Try.prog 38 = true := by kernel_rfl
def sortL (l : List Int) : List Int := l.mergeSort fun x y => decide (x ≤ y)
theorem sortL_len (l : List Int) : (sortL l).length = l.length := by simp [sortL]
variable {P : Program} (hP : P = Try.prog)
include hP

theorem valuesR {es : List (List D)} : SCall P 36 [] [.d (.sl es)] (fun sv own' => sv = .clo (.func 46) [] [.ptr 0 0] ∧ own' = [.cells [.d (.sl es)] 24]) := by
  refine .walk (hP ▸ d36_ok) fun K hK => ?_
  cbv
  exact hK _ _ ⟨rfl, rfl⟩


theorem sortedR {l : List Int} {es : List (List D)} (hes : es = l.map dI) (hl : l.length ≤ 1000000000) :
    SCall P 35 [.cells [.d (.sl es)] 24] [.clo (.func 46) [] [.ptr 0 0]] (fun sv own' => sv = .d (.sl ((sortL l).map dI)) ∧ own' = [.cells [.d (.sl es)] 24, .fz ((sortL l).map dI)]) := by
  subst hP; subst hes
  refine SCall.data (SCall.ofRowG (ty := 3) (sz := 1) (es := (sortL l).map dI) ok35 (by simp [dI]) ?_) ?_
  · intro c w us hS hr
    obtain ⟨u, us', rfl, hu, hn⟩ := RelL.cons_iff.1 hr
    obtain rfl := RelL.nil_iff.1 hn
    obtain ⟨fs, vs, rfl, hf, hv⟩ := Rel.clo_iff.1 hu
    obtain rfl := RelL.nil_iff.1 hf
    obtain ⟨u2, us2, rfl, hu2, hn2⟩ := RelL.cons_iff.1 hv
    obtain rfl := RelL.nil_iff.1 hn2
    cases hu2 with
    | ptr hr0 hθ =>
      rename_i b
      obtain ⟨b', xs, h1, h2, h3, h4⟩ := hS.res 0 _ rfl
      rw [hθ] at h1; cases h1
      obtain ⟨x, hx, _, hxr⟩ := h4 0 _ rfl
      have hxs : xs = #[x] := by
        simp at h3
        apply Array.ext
        · simp [h3]
        · intro i hi hi2
          simp at hi2; subst hi2
          rw [Array.getElem?_eq_getElem hi] at hx; simpa using hx
      subst hxs
      have hbl := (Array.getElem?_eq_some_iff.1 h2).1
      have hc0 : w.cell? ⟨b, 0, none⟩ = some x := by simp [World.cell?, h2]
      cases hxr with
      | d hrep =>
        have hseq : SeqKept Fence.wide 2 Try.prog 46 #[.pointer (some ⟨b, 0, none⟩)] l w := fun k J W hJ hY h0 => by
          rcases hrep.ints hS.le with ⟨a, cap, rfl, rfl⟩ | ⟨b2, off, cap, rfl, hb2, hcs⟩
          · exact Try.values1_nil_in Fence.wide 2 trivial rfl k b a cap J W (((hJ _ _ h0).cell (p := ⟨b, 0, none⟩) hbl).trans hc0) h0
          · exact Try.values1_in Fence.wide 2 trivial rfl (by omega) k b b2 off cap l (by omega) J w hJ hb2 hbl hY W hc0 hcs h0
        have hsorts : AnyZI.SortsIn Try.prog Try.sorted35_ren Fence.wide 4 :=
          ⟨fun blk off cap ss W hH hblk hsz => callsIn_wide.2 (Try.slices_Sort_int blk off cap ss W hH hblk hsz), fun p cap W => callsIn_wide.2 (Try.slices_Sort_int_none p cap W)⟩
        have := Try.sorted_in Try.sorted35 Fence.wide 5 trivial trivial trivial trivial rfl (by omega) hsorts (enters_of Try.func45 (by kernel_rfl) rfl) 46 #[.pointer (some ⟨b, 0, none⟩)] trivial (enters_of Try.func46 (by kernel_rfl) rfl) l (by simp [maxLen]; omega) (by omega) w hseq
        refine (callsIn_wide.1 this).mono ?_
        rintro e w' ⟨v, rfl, hrow, _, hb⟩
        exact ⟨v, _, rfl, by rw [List.length_map, sortL_len]; exact hrow, hb, intsX rfl⟩
  · rintro sv own' ⟨rfl, rfl⟩
    exact ⟨rfl, rfl⟩

theorem cloneR {l : List Int} {es : List (List D)} (hes : es = l.map dI) (hl : l.length ≤ 1000000000) : SCall P 38 [] [.d (.sl es)] (fun sv own' => sv = .hd 0 ∧ own' = [.row 3 1 (l.map dI)]) := by
  subst hP; subst hes
  refine SCall.ofRowG (own := []) ok38 (by simp [dI]) ?_
  intro c w us hS hr
  obtain ⟨u, us', rfl, hu, hn⟩ := RelL.cons_iff.1 hr
  obtain rfl := RelL.nil_iff.1 hn
  cases hu with
  | d hrep =>
    rcases hrep.ints hS.le with ⟨a, cap, rfl, rfl⟩ | ⟨b, off, cap, rfl, hb, hcs⟩
    · cases a with
      | none =>
        refine (Try.slices_Clone_int_nil 0 cap w).mono ?_
        rintro e w' ⟨rfl, rfl⟩
        exact ⟨_, [], rfl, World.ownsRow_nil _ _ _ _, .refl _ _, by simp⟩
      | some a =>
        refine (Try.slices_Clone_int_zero a cap w).mono ?_
        rintro e w' ⟨v, rfl, hrow, _, hb⟩
        exact ⟨_, [], rfl, hrow, hb, by simp⟩
    · refine (Try.slices_Clone_int b off l.length cap l w (Nat.le_refl _) (by omega) (by simpa [List.getD_eq_getElem?_getD] using hcs)).mono ?_
      rintro e w' ⟨v, rfl, hrow, _, hb⟩
      refine ⟨_, _, rfl, by simpa using hrow, hb, intsX rfl⟩

end Go.SX.Runs
/-
  Runs: a list without its neighbours that are equal.
-/
namespace Go.SX.Runs
open Go Go.Proofs
/-- The first k elements, but for those that are equal to the one before. -/
def cmpTo (l : List Int) : Nat → List Int
  | 0 => []
  | k + 1 => match l[k]? with
    | none => cmpTo l k
    | some x => if k ≠ 0 ∧ l[k - 1]? = some x then cmpTo l k else cmpTo l k ++ [x]
def compL (l : List Int) : List Int := cmpTo l l.length
theorem cmpTo_succ {l : List Int} {k : Nat} {x : Int} (h : l[k]? = some x) : cmpTo l (k + 1) = if k ≠ 0 ∧ l[k - 1]? = some x then cmpTo l k else cmpTo l k ++ [x] := by
  rw [cmpTo, h]
theorem cmpTo_le (l : List Int) (k : Nat) : (cmpTo l k).length ≤ k := by
  induction k with
  | zero => simp [cmpTo]
  | succ k ih =>
    rw [cmpTo]
    split
    · omega
    · split
      · omega
      · simp; omega
theorem cmpTo_same {l : List Int} {k : Nat} {x y : Int} (h0 : k ≠ 0) (h : l[k]? = some x) (h' : l[k - 1]? = some y) (he : x = y) : cmpTo l (k + 1) = cmpTo l k := by
  rw [cmpTo_succ h, if_pos ⟨h0, by rw [h', he]⟩]
theorem cmpTo_new {l : List Int} {k : Nat} {x y : Int} (h : l[k]? = some x) (h' : l[k - 1]? = some y) (he : x ≠ y) : cmpTo l (k + 1) = cmpTo l k ++ [x] := by
  rw [cmpTo_succ h, if_neg]
  rintro ⟨_, h2⟩
  rw [h'] at h2; cases h2; exact he rfl
/-- It is shorter just where two neighbours are equal. -/
theorem cmpTo_len (l : List Int) (k : Nat) (hk : k ≤ l.length) : (cmpTo l k).length = k ↔ ∀ i, 0 < i → i < k → l[i]? ≠ l[i - 1]? := by
  induction k with
  | zero => simp [cmpTo]
  | succ k ih =>
    have hx : l[k]? = some l[k] := List.getElem?_eq_getElem (by omega)
    have ih := ih (by omega)
    have hle := cmpTo_le l k
    rw [cmpTo_succ hx]
    split
    · rename_i h
      constructor
      · intro h2; omega
      · intro h2; exact absurd (hx.trans h.2.symm) (h2 k (by omega) (by omega))
    · rename_i h
      rw [List.length_append, List.length_singleton]
      constructor
      · intro h2 i hi hi2
        by_cases hik : i = k
        · subst hik; rw [hx]; intro h3; exact h ⟨by omega, h3.symm⟩
        · exact ih.1 (by omega) i hi (by omega)
      · intro h2
        rw [ih.2 fun i hi hi2 => h2 i hi (by omega)]
variable {P : Program} (hP : P = Try.prog)
include hP
theorem compactR {l : List Int} {es : List (List D)} (hes : es = l.map dI) (hl : l.length ≤ 1000000000) :
    SCall P 37 [.row 3 1 es] [.hd 0] (fun sv own' => sv = .d (.sl ((compL l).map dI)) ∧ own' = [.gone]) := by
  refine .walkC (hP ▸ d37_ok) rfl fun K hK => ?_
  have la : es.length = l.length := by simp [hes]
  cbv
  refine brk (fun h => ?_) (fun h => ?_)
  · simp only [x_lt, x_len, la, decide_eq_true_eq] at h
    cbv
    refine hK _ _ (slE ?_)
    have : compL l = l := by
      match l, h with
      | [], _ => rfl
      | [x], _ => rfl
      | x :: y :: r, h => simp at h; omega
    rw [this, hes]
  simp only [x_lt, x_len, la, decide_eq_false_iff_not] at h
  cbv
  refine .intro (ι := Int) (fun k => [.hd 0, .top, .top, .i k] ++ List.replicate 57 .top) (fun _ => [.row 3 1 es]) (fun env _ => iAt env 3)
    (fun k => 1 ≤ k ∧ k ≤ l.length ∧ cmpTo l k.toNat = l.take k.toNat) (fun k => l.length - k.toNat) 1 ?_ (.mtn [0] ?_) fun k hk Kn hKn => ?_
  · refine ⟨Int.le_refl _, by (first | omega | ((try simp only [nc] at *); (try simp only [Int.ofNat_eq_natCast] at *); omega)), ?_⟩
    have hn0 : 0 < l.length := by (first | omega | ((try simp only [nc] at *); (try simp only [Int.ofNat_eq_natCast] at *); omega))
    have hx : l[0]? = some l[0] := List.getElem?_eq_getElem hn0
    show cmpTo l 1 = l.take 1
    rw [cmpTo_succ hx, if_neg (by simp), take_succ_eq hx]; rfl
  · (cbv; repeat (refine ⟨rfl, ?_⟩; cbv))
  obtain ⟨hk1, hk2, hk3⟩ := hk
  cbv
  refine brk (fun h1 => ?_) (fun h1 => ?_)
  · simp only [x_lt, x_len, la, decide_eq_true_eq] at h1
    cbv
    refine ⟨by (first | omega | ((try simp only [nc] at *); (try simp only [Int.ofNat_eq_natCast] at *); omega)), by rw [la]; exact h1, ?_⟩
    cbv
    refine .map hes (by simp only [x_nat]; (first | omega | ((try simp only [nc] at *); (try simp only [Int.ofNat_eq_natCast] at *); omega))) fun x hx => ?_
    simp only [x_nat] at hx
    have ew : IntKind.i64.wrap (k - 1) = k - 1 := wr64 (by (first | omega | ((try simp only [nc] at *); (try simp only [Int.ofNat_eq_natCast] at *); omega))) (by (first | omega | ((try simp only [nc] at *); (try simp only [Int.ofNat_eq_natCast] at *); omega)))
    cbv
    refine ⟨by simp only [x_subi]; rw [ew]; (first | omega | ((try simp only [nc] at *); (try simp only [Int.ofNat_eq_natCast] at *); omega)), by simp only [x_subi]; rw [ew, la]; (first | omega | ((try simp only [nc] at *); (try simp only [Int.ofNat_eq_natCast] at *); omega)), ?_⟩
    cbv
    refine .map hes (by simp only [x_nat, x_subi]; rw [ew]; (first | omega | ((try simp only [nc] at *); (try simp only [Int.ofNat_eq_natCast] at *); omega))) fun y hy => ?_
    simp only [x_nat, x_subi] at hy
    rw [ew] at hy
    have hy : l[k.toNat - 1]? = some y := by rw [← hy]; congr 1; (first | omega | ((try simp only [nc] at *); (try simp only [Int.ofNat_eq_natCast] at *); omega))
    cbv
    refine brk (fun h2 => ?_) (fun h2 => ?_)
    · simp only [x_eq, decide_eq_true_eq] at h2
      cbv
      refine .own ?_
      cbv
      refine ⟨by (first | omega | ((try simp only [nc] at *); (try simp only [Int.ofNat_eq_natCast] at *); omega)), by rw [la]; (first | omega | ((try simp only [nc] at *); (try simp only [Int.ofNat_eq_natCast] at *); omega)), ?_⟩
      cbv
      refine .intro (ι := Int × Int × List (List D)) (fun q => [.hd 0, .top, .top, .i q.1, .rs 0 1 ((Classical.choice ioEx).1.nat k), .i q.2.1] ++ List.replicate 55 .top) (fun q => [.row 3 1 q.2.2]) (fun env own => (iAt env 3, iAt env 5, rAt own 0))
        (fun q => ∃ ml : List Int, q.2.2 = ml.map dI ∧ ml.length = l.length ∧ 0 ≤ q.1 ∧ q.1 + 1 ≤ k + q.2.1 ∧ 1 ≤ q.2.1 ∧ k + q.2.1 ≤ l.length ∧ ml.take q.1.toNat = cmpTo l (k + q.2.1).toNat ∧ ml.drop (k + q.2.1 - 1).toNat = l.drop (k + q.2.1 - 1).toNat)
        (fun q => l.length - q.2.1.toNat) (k, 1, es) ?_ (.mtn [0] ?_) fun q hq Kn2 hKn2 => ?_
      · refine ⟨l, hes, rfl, by (first | omega | ((try simp only [nc] at *); (try simp only [Int.ofNat_eq_natCast] at *); omega)), by (first | omega | ((try simp only [nc] at *); (try simp only [Int.ofNat_eq_natCast] at *); omega)), by (first | omega | ((try simp only [nc] at *); (try simp only [Int.ofNat_eq_natCast] at *); omega)), by (first | omega | ((try simp only [nc] at *); (try simp only [Int.ofNat_eq_natCast] at *); omega)), ?_, rfl⟩
        have e1 : (k + 1).toNat = k.toNat + 1 := by (first | omega | ((try simp only [nc] at *); (try simp only [Int.ofNat_eq_natCast] at *); omega))
        rw [e1, cmpTo_same (by (first | omega | ((try simp only [nc] at *); (try simp only [Int.ofNat_eq_natCast] at *); omega))) hx hy h2, hk3]
      · (cbv; repeat (refine ⟨rfl, ?_⟩; cbv))
      obtain ⟨p, q, es'⟩ := q
      obtain ⟨ml, hml, hmlen, hp0, hpq, hq1, hql, hmt, hmd⟩ := hq
      dsimp only at hml hp0 hpq hq1 hql hmt hmd
      have la' : es'.length = l.length := by rw [hml, List.length_map, hmlen]
      have hget : ∀ j : Nat, k + q - 1 ≤ j → ml[j]? = l[j]? := fun j hj => by
        have : (ml.drop (k + q - 1).toNat)[j - (k + q - 1).toNat]? = (l.drop (k + q - 1).toNat)[j - (k + q - 1).toNat]? := by rw [hmd]
        rw [List.getElem?_drop, List.getElem?_drop] at this
        rw [show (k + q - 1).toNat + (j - (k + q - 1).toNat) = j by omega] at this
        exact this
      cbv
      refine brk (fun h3 => ?_) (fun h3 => ?_)
      · simp only [x_lt, x_lenR, x_nat, la', decide_eq_true_eq] at h3
        have h4 : k + q < l.length := by (first | omega | ((try simp only [nc] at *); (try simp only [Int.ofNat_eq_natCast] at *); omega))
        cbv
        refine ⟨by (first | omega | ((try simp only [nc] at *); (try simp only [Int.ofNat_eq_natCast] at *); omega)), by simp only [la', x_nat]; (first | omega | ((try simp only [nc] at *); (try simp only [Int.ofNat_eq_natCast] at *); omega)), ?_⟩
        cbv
        refine .map hml (by simp only [x_natp, x_nat]; (first | omega | ((try simp only [nc] at *); (try simp only [Int.ofNat_eq_natCast] at *); omega))) fun u hu => ?_
        simp only [x_natp, x_nat] at hu
        have hu2 : l[(k + q).toNat]? = some u := by rw [← hu, ← hget _ (by (first | omega | ((try simp only [nc] at *); (try simp only [Int.ofNat_eq_natCast] at *); omega)))]; congr 1; (first | omega | ((try simp only [nc] at *); (try simp only [Int.ofNat_eq_natCast] at *); omega))
        have ew : IntKind.i64.wrap (q - 1) = q - 1 := wr64 (by (first | omega | ((try simp only [nc] at *); (try simp only [Int.ofNat_eq_natCast] at *); omega))) (by (first | omega | ((try simp only [nc] at *); (try simp only [Int.ofNat_eq_natCast] at *); omega)))
        cbv
        refine ⟨by simp only [x_subi]; rw [ew]; (first | omega | ((try simp only [nc] at *); (try simp only [Int.ofNat_eq_natCast] at *); omega)), by simp only [x_subi]; simp only [ew, la', x_nat]; (first | omega | ((try simp only [nc] at *); (try simp only [Int.ofNat_eq_natCast] at *); omega)), ?_⟩
        cbv
        refine .map hml (by simp only [x_natp, x_nat, x_subi]; rw [ew]; (first | omega | ((try simp only [nc] at *); (try simp only [Int.ofNat_eq_natCast] at *); omega))) fun v hv => ?_
        simp only [x_natp, x_nat, x_subi] at hv
        rw [ew] at hv
        have hv2 : l[(k + q).toNat - 1]? = some v := by rw [← hv, ← hget _ (by (first | omega | ((try simp only [nc] at *); (try simp only [Int.ofNat_eq_natCast] at *); omega)))]; congr 1; (first | omega | ((try simp only [nc] at *); (try simp only [Int.ofNat_eq_natCast] at *); omega))
        cbv
        refine brk (fun h5 => ?_) (fun h5 => ?_)
        · simp only [x_eq, x_not, Bool.not_eq_true', decide_eq_false_iff_not] at h5
          cbv
          refine ⟨by (first | omega | ((try simp only [nc] at *); (try simp only [Int.ofNat_eq_natCast] at *); omega)), by simp only [la', x_nat]; (first | omega | ((try simp only [nc] at *); (try simp only [Int.ofNat_eq_natCast] at *); omega)), ?_⟩
          cbv
          refine .map hml (by simp only [x_natp, x_nat]; (first | omega | ((try simp only [nc] at *); (try simp only [Int.ofNat_eq_natCast] at *); omega))) fun u' hu' => ?_
          simp only [x_natp, x_nat] at hu'
          rw [hu] at hu'; cases hu'
          cbv
          refine ⟨by (first | omega | ((try simp only [nc] at *); (try simp only [Int.ofNat_eq_natCast] at *); omega)), by rw [la']; (first | omega | ((try simp only [nc] at *); (try simp only [Int.ofNat_eq_natCast] at *); omega)), ?_⟩
          cbv
          refine .map hml (by simp only [x_nat]; (first | omega | ((try simp only [nc] at *); (try simp only [Int.ofNat_eq_natCast] at *); omega))) fun z hz => ?_
          cbv
          refine hKn2 _ _ (.mtn [0] ?_) ?_ ?_
          · (cbv; repeat (refine ⟨rfl, ?_⟩; cbv))
          · simp only [iAt, geti, rAt, getr, x_add, x_set, x_nat]
            rw [wr64 (by (first | omega | ((try simp only [nc] at *); (try simp only [Int.ofNat_eq_natCast] at *); omega))) (by (first | omega | ((try simp only [nc] at *); (try simp only [Int.ofNat_eq_natCast] at *); omega))), wr64 (by (first | omega | ((try simp only [nc] at *); (try simp only [Int.ofNat_eq_natCast] at *); omega))) (by (first | omega | ((try simp only [nc] at *); (try simp only [Int.ofNat_eq_natCast] at *); omega)))]
            refine ⟨ml.set p.toNat u, ?_, by rw [List.length_set]; exact hmlen, by (first | omega | ((try simp only [nc] at *); (try simp only [Int.ofNat_eq_natCast] at *); omega)), by (first | omega | ((try simp only [nc] at *); (try simp only [Int.ofNat_eq_natCast] at *); omega)), by (first | omega | ((try simp only [nc] at *); (try simp only [Int.ofNat_eq_natCast] at *); omega)), by (first | omega | ((try simp only [nc] at *); (try simp only [Int.ofNat_eq_natCast] at *); omega)), ?_, ?_⟩
            · rw [hml, List.map_set]; rfl
            · have hlt : p.toNat < ml.length := by (first | omega | ((try simp only [nc] at *); (try simp only [Int.ofNat_eq_natCast] at *); omega))
              have hg : (ml.set p.toNat u)[p.toNat]? = some u := by simp [hlt]
              rw [show (k + (q + 1)).toNat = (k + q).toNat + 1 by (first | omega | ((try simp only [nc] at *); (try simp only [Int.ofNat_eq_natCast] at *); omega)), show (p + 1).toNat = p.toNat + 1 by (first | omega | ((try simp only [nc] at *); (try simp only [Int.ofNat_eq_natCast] at *); omega)), cmpTo_new hu2 hv2 h5, take_succ_eq hg, List.take_set_of_le (Nat.le_refl _), hmt]
            · rw [List.drop_set_of_lt (by (first | omega | ((try simp only [nc] at *); (try simp only [Int.ofNat_eq_natCast] at *); omega))), show (k + (q + 1) - 1).toNat = (k + q - 1).toNat + 1 by (first | omega | ((try simp only [nc] at *); (try simp only [Int.ofNat_eq_natCast] at *); omega)), ← List.drop_drop, hmd, List.drop_drop]
          · simp only [iAt, geti, x_add]
            rw [wr64 (by (first | omega | ((try simp only [nc] at *); (try simp only [Int.ofNat_eq_natCast] at *); omega))) (by (first | omega | ((try simp only [nc] at *); (try simp only [Int.ofNat_eq_natCast] at *); omega)))]
            (first | omega | ((try simp only [nc] at *); (try simp only [Int.ofNat_eq_natCast] at *); omega))
        · simp only [x_eq, x_not, Bool.not_eq_false', decide_eq_true_eq] at h5
          cbv
          refine hKn2 _ _ (.mtn [0] ?_) ?_ ?_
          · (cbv; repeat (refine ⟨rfl, ?_⟩; cbv))
          · simp only [iAt, geti, rAt, getr, x_add]
            rw [wr64 (by (first | omega | ((try simp only [nc] at *); (try simp only [Int.ofNat_eq_natCast] at *); omega))) (by (first | omega | ((try simp only [nc] at *); (try simp only [Int.ofNat_eq_natCast] at *); omega)))]
            refine ⟨ml, hml, hmlen, by (first | omega | ((try simp only [nc] at *); (try simp only [Int.ofNat_eq_natCast] at *); omega)), by (first | omega | ((try simp only [nc] at *); (try simp only [Int.ofNat_eq_natCast] at *); omega)), by (first | omega | ((try simp only [nc] at *); (try simp only [Int.ofNat_eq_natCast] at *); omega)), by (first | omega | ((try simp only [nc] at *); (try simp only [Int.ofNat_eq_natCast] at *); omega)), ?_, ?_⟩
            · rw [show (k + (q + 1)).toNat = (k + q).toNat + 1 by (first | omega | ((try simp only [nc] at *); (try simp only [Int.ofNat_eq_natCast] at *); omega)), cmpTo_same (by (first | omega | ((try simp only [nc] at *); (try simp only [Int.ofNat_eq_natCast] at *); omega))) hu2 hv2 h5, hmt]
            · rw [show (k + (q + 1) - 1).toNat = (k + q - 1).toNat + 1 by (first | omega | ((try simp only [nc] at *); (try simp only [Int.ofNat_eq_natCast] at *); omega)), ← List.drop_drop, hmd, List.drop_drop]
          · simp only [iAt, geti, x_add]
            rw [wr64 (by (first | omega | ((try simp only [nc] at *); (try simp only [Int.ofNat_eq_natCast] at *); omega))) (by (first | omega | ((try simp only [nc] at *); (try simp only [Int.ofNat_eq_natCast] at *); omega)))]
            (first | omega | ((try simp only [nc] at *); (try simp only [Int.ofNat_eq_natCast] at *); omega))
      · simp only [x_lt, x_lenR, x_nat, la', decide_eq_false_iff_not] at h3
        have hpl : p.toNat ≤ es'.length := by (first | omega | ((try simp only [nc] at *); (try simp only [Int.ofNat_eq_natCast] at *); omega))
        cbv
        refine .own ?_
        cbv
        refine ⟨hp0, by rw [la']; (first | omega | ((try simp only [nc] at *); (try simp only [Int.ofNat_eq_natCast] at *); omega)), ?_⟩
        cbv
        refine ⟨by simp only [x_nat]; exact hpl, ?_⟩
        cbv
        refine .own ?_
        cbv
        refine ⟨hp0, ?_, ?_⟩
        · simp only [x_clr, x_nat, List.length_append, List.length_take, List.length_replicate]
          (first | omega | ((try simp only [nc] at *); (try simp only [Int.ofNat_eq_natCast] at *); omega))
        cbv
        refine hK _ _ (slE ?_)
        simp only [x_take, x_clr, x_nat]
        rw [List.take_append_of_le_length (by rw [List.length_take]; omega), List.take_take, Nat.min_self, hml, ← List.map_take, hmt, compL]
        congr 2
        (first | omega | ((try simp only [nc] at *); (try simp only [Int.ofNat_eq_natCast] at *); omega))
    · simp only [x_eq, decide_eq_false_iff_not] at h2
      cbv
      refine hKn _ _ (.mtn [0] ?_) ?_ ?_
      · (cbv; repeat (refine ⟨rfl, ?_⟩; cbv))
      · simp only [iAt, geti, x_add]
        rw [wr64 (by (first | omega | ((try simp only [nc] at *); (try simp only [Int.ofNat_eq_natCast] at *); omega))) (by (first | omega | ((try simp only [nc] at *); (try simp only [Int.ofNat_eq_natCast] at *); omega))), toNat_succ (by (first | omega | ((try simp only [nc] at *); (try simp only [Int.ofNat_eq_natCast] at *); omega)))]
        refine ⟨by (first | omega | ((try simp only [nc] at *); (try simp only [Int.ofNat_eq_natCast] at *); omega)), by (first | omega | ((try simp only [nc] at *); (try simp only [Int.ofNat_eq_natCast] at *); omega)), ?_⟩
        rw [cmpTo_new hx hy h2, hk3, take_succ_eq hx]
      · simp only [iAt, geti, x_add]
        rw [wr64 (by (first | omega | ((try simp only [nc] at *); (try simp only [Int.ofNat_eq_natCast] at *); omega))) (by (first | omega | ((try simp only [nc] at *); (try simp only [Int.ofNat_eq_natCast] at *); omega)))]
        (first | omega | ((try simp only [nc] at *); (try simp only [Int.ofNat_eq_natCast] at *); omega))
  · simp only [x_lt, x_len, la, decide_eq_false_iff_not] at h1
    cbv
    refine hK _ _ (slE ?_)
    have e1 : k.toNat = l.length := by (first | omega | ((try simp only [nc] at *); (try simp only [Int.ofNat_eq_natCast] at *); omega))
    rw [hes, compL, ← e1, hk3, e1, List.take_length]
end Go.SX.Runs
