/-
  Runs: what is deleted from the seats.
-/
import Derived.Test.YtlahdopmiplnoaaXR6
namespace Go.SX.Runs
open Go Go.Proofs
def freeL (t : List Bool) (sl : List (Place × Nat)) : List (Place × Nat) := sl.filter fun x => !takenL t x.2
theorem freeL_snoc (t : List Bool) (l : List (Place × Nat)) (x : Place × Nat) : freeL t (l ++ [x]) = freeL t l ++ (if takenL t x.2 then [] else [x]) := by
  rw [freeL, freeL, List.filter_append]
  congr 1
  cases h : takenL t x.2 <;> simp [h]
theorem freeL_len (t : List Bool) (l : List (Place × Nat)) : (freeL t l).length ≤ l.length := List.length_filter_le _ _
theorem freeL_all {t : List Bool} {l : List (Place × Nat)} (h : ∀ x ∈ l, takenL t x.2 = false) : freeL t l = l := by
  rw [freeL, List.filter_eq_self]
  intro x hx; simp [h x hx]
variable {P : Program} (hP : P = Try.prog)
include hP
theorem deleteR {t : List Bool} {et : List (List D)} (het : et = t.map dB) {sl : List (Place × Nat)} {es : List (List D)} (hes : es = sl.map seatD) (hl : sl.length ≤ 1000000000) :
    SCall P 30 [.row 52 10 es] [.hd 0, .clo (.func 31) [] [.fp [.sl et]]] (fun sv own' => sv = .d (.sl ((freeL t sl).map seatD)) ∧ own' = [.gone]) := by
  refine .walkC (hP ▸ d30_ok) rfl fun K hK => ?_
  have la : es.length = sl.length := by simp [hes]
  cbv
  refine .lent [] (indexR hP het hes hl) rfl ?_
  generalize hv : idxI _ = v
  cbv
  refine brk (fun h => ?_) (fun h => ?_)
  · simp only [x_eq, decide_eq_true_eq] at h
    cbv
    refine hK _ _ (slE ?_)
    have hno : sl.findIdx? (fun x => takenL t x.2) = none := by
      cases hf : sl.findIdx? (fun x => takenL t x.2) with
      | none => rfl
      | some n => rw [hf] at hv; simp only [idxI] at hv; omega
    rw [List.findIdx?_eq_none_iff] at hno
    rw [freeL_all (by simpa using hno), hes]
  simp only [x_eq, decide_eq_false_iff_not] at h
  obtain ⟨n, hf, hvn⟩ : ∃ n, sl.findIdx? (fun x => takenL t x.2) = some n ∧ v = Int.ofNat n := by
    cases hf : sl.findIdx? (fun x => takenL t x.2) with
    | none => rw [hf] at hv; exact (h hv.symm).elim
    | some n => rw [hf] at hv; exact ⟨n, rfl, hv.symm⟩
  rw [List.findIdx?_eq_some_iff_getElem] at hf
  obtain ⟨hn1, hn2, hn3⟩ := hf
  cbv
  refine .intro (ι := Int × Int × List (List D)) (fun k => [.hd 0, .clo (.func 31) [] [.fp [.sl et]], .top, .top, .top, .i k.1, .i k.2.1] ++ List.replicate 35 .top) (fun k => [.row 52 10 k.2.2]) (fun env own => (iAt env 5, iAt env 6, rAt own 0))
    (fun k => ∃ ml : List (Place × Nat), k.2.2 = ml.map seatD ∧ ml.length = sl.length ∧ 0 ≤ k.1 ∧ k.1 < k.2.1 ∧ k.2.1 ≤ sl.length ∧ ml.take k.1.toNat = freeL t (sl.take k.2.1.toNat) ∧ ml.drop k.2.1.toNat = sl.drop k.2.1.toNat) (fun k => sl.length - k.2.1.toNat)
    (v, (Classical.choice ioEx).1.ar .add .i64 v 1, es) ?_ (.mtn [0] ?_) fun k hk Kn hKn => ?_
  · simp only [x_add]
    rw [wr64 (by ((try simp only [nc] at *); (try simp only [Int.ofNat_eq_natCast] at *); omega)) (by ((try simp only [nc] at *); (try simp only [Int.ofNat_eq_natCast] at *); omega))]
    have e1 : v.toNat = n := by ((try simp only [nc] at *); (try simp only [Int.ofNat_eq_natCast] at *); omega)
    have e2 : (v + 1).toNat = n + 1 := by ((try simp only [nc] at *); (try simp only [Int.ofNat_eq_natCast] at *); omega)
    refine ⟨sl, hes, rfl, by ((try simp only [nc] at *); (try simp only [Int.ofNat_eq_natCast] at *); omega), by ((try simp only [nc] at *); (try simp only [Int.ofNat_eq_natCast] at *); omega), by ((try simp only [nc] at *); (try simp only [Int.ofNat_eq_natCast] at *); omega), ?_, rfl⟩
    have hx : sl[n]? = some sl[n] := by simp [hn1]
    rw [e1, e2, take_succ_eq hx, freeL_snoc, hn2, if_pos rfl, List.append_nil, freeL_all]
    intro x hx
    obtain ⟨i, hi⟩ := List.getElem?_of_mem hx
    rw [List.getElem?_take] at hi
    split at hi
    · rename_i hin
      have := hn3 i hin
      obtain ⟨hil, he⟩ := List.getElem?_eq_some_iff.1 hi
      rw [he] at this
      simpa using this
    · cases hi
  · (cbv; repeat (refine ⟨rfl, ?_⟩; cbv))
  obtain ⟨i, j, es'⟩ := k
  obtain ⟨ml, hml, hmlen, hi0, hij, hjl, hmt, hmd⟩ := hk
  dsimp only at hml hi0 hij hjl hmt hmd
  have la' : es'.length = sl.length := by rw [hml, List.length_map, hmlen]
  cbv
  refine brk (fun h1 => ?_) (fun h1 => ?_)
  · simp only [x_lt, x_len, la', decide_eq_true_eq] at h1
    cbv
    refine ⟨by ((try simp only [nc] at *); (try simp only [Int.ofNat_eq_natCast] at *); omega), by rw [la']; exact h1, ?_⟩
    cbv
    refine .map hml (by simp only [x_nat]; ((try simp only [nc] at *); (try simp only [Int.ofNat_eq_natCast] at *); omega)) fun x hx => ?_
    simp only [x_nat] at hx
    have hx2 : sl[j.toNat]? = some x := by
      have : (ml.drop j.toNat)[0]? = some x := by rw [List.getElem?_drop]; simpa using hx
      rw [hmd, List.getElem?_drop] at this; simpa using this
    have hfs := freeL_snoc t (sl.take j.toNat) x
    rw [← take_succ_eq hx2] at hfs
    obtain ⟨x, xi⟩ := x
    cbv
    refine .f1 (free1R hP het x _ (Int.natCast_nonneg xi)) rfl rfl ?_
    generalize hw : takenL t xi = w
    simp only [hw] at hfs
    cbv
    refine brk (fun h2 => ?_) (fun h2 => ?_)
    · simp only [x_not, Bool.not_eq_true'] at h2
      simp only [h2, Bool.false_eq_true, if_false] at hfs
      cbv
      refine ⟨by ((try simp only [nc] at *); (try simp only [Int.ofNat_eq_natCast] at *); omega), by rw [la']; ((try simp only [nc] at *); (try simp only [Int.ofNat_eq_natCast] at *); omega), ?_⟩
      cbv
      refine .map hml (by simp only [x_nat]; ((try simp only [nc] at *); (try simp only [Int.ofNat_eq_natCast] at *); omega)) fun y hy => ?_
      obtain ⟨y, yi⟩ := y
      cbv
      refine hKn _ _ (.mtn [0] ?_) ?_ ?_
      · (cbv; repeat (refine ⟨rfl, ?_⟩; cbv))
      · simp only [iAt, geti, rAt, getr, x_add, x_set, x_nat]
        rw [wr64 (by ((try simp only [nc] at *); (try simp only [Int.ofNat_eq_natCast] at *); omega)) (by ((try simp only [nc] at *); (try simp only [Int.ofNat_eq_natCast] at *); omega)), wr64 (by ((try simp only [nc] at *); (try simp only [Int.ofNat_eq_natCast] at *); omega)) (by ((try simp only [nc] at *); (try simp only [Int.ofNat_eq_natCast] at *); omega)), toNat_succ (by ((try simp only [nc] at *); (try simp only [Int.ofNat_eq_natCast] at *); omega)), toNat_succ (by ((try simp only [nc] at *); (try simp only [Int.ofNat_eq_natCast] at *); omega))]
        refine ⟨ml.set i.toNat (x, xi), ?_, by rw [List.length_set]; exact hmlen, by ((try simp only [nc] at *); (try simp only [Int.ofNat_eq_natCast] at *); omega), by ((try simp only [nc] at *); (try simp only [Int.ofNat_eq_natCast] at *); omega), by ((try simp only [nc] at *); (try simp only [Int.ofNat_eq_natCast] at *); omega), ?_, ?_⟩
        · rw [hml, List.map_set]; rfl
        · rw [hfs, ← hmt]
          have hlt : i.toNat < ml.length := by ((try simp only [nc] at *); (try simp only [Int.ofNat_eq_natCast] at *); omega)
          have hg : (ml.set i.toNat (x, xi))[i.toNat]? = some (x, xi) := by simp [hlt]
          rw [take_succ_eq hg, List.take_set_of_le (Nat.le_refl _)]
        · rw [List.drop_set_of_lt (by ((try simp only [nc] at *); (try simp only [Int.ofNat_eq_natCast] at *); omega))]
          rw [← List.drop_drop, hmd, List.drop_drop]
      · simp only [iAt, geti, x_add]
        rw [wr64 (by ((try simp only [nc] at *); (try simp only [Int.ofNat_eq_natCast] at *); omega)) (by ((try simp only [nc] at *); (try simp only [Int.ofNat_eq_natCast] at *); omega))]
        ((try simp only [nc] at *); (try simp only [Int.ofNat_eq_natCast] at *); omega)
    · simp only [x_not, Bool.not_eq_false'] at h2
      simp only [h2, if_true, List.append_nil] at hfs
      cbv
      refine hKn _ _ (.mtn [0] ?_) ?_ ?_
      · (cbv; repeat (refine ⟨rfl, ?_⟩; cbv))
      · simp only [iAt, geti, rAt, getr, x_add]
        rw [wr64 (by ((try simp only [nc] at *); (try simp only [Int.ofNat_eq_natCast] at *); omega)) (by ((try simp only [nc] at *); (try simp only [Int.ofNat_eq_natCast] at *); omega)), toNat_succ (by ((try simp only [nc] at *); (try simp only [Int.ofNat_eq_natCast] at *); omega))]
        refine ⟨ml, hml, hmlen, by ((try simp only [nc] at *); (try simp only [Int.ofNat_eq_natCast] at *); omega), by ((try simp only [nc] at *); (try simp only [Int.ofNat_eq_natCast] at *); omega), by ((try simp only [nc] at *); (try simp only [Int.ofNat_eq_natCast] at *); omega), by rw [hfs, ← hmt], ?_⟩
        rw [← List.drop_drop, hmd, List.drop_drop]
      · simp only [iAt, geti, x_add]
        rw [wr64 (by ((try simp only [nc] at *); (try simp only [Int.ofNat_eq_natCast] at *); omega)) (by ((try simp only [nc] at *); (try simp only [Int.ofNat_eq_natCast] at *); omega))]
        ((try simp only [nc] at *); (try simp only [Int.ofNat_eq_natCast] at *); omega)
  · simp only [x_lt, x_len, la', decide_eq_false_iff_not] at h1
    have hil : i.toNat ≤ es'.length := by ((try simp only [nc] at *); (try simp only [Int.ofNat_eq_natCast] at *); omega)
    cbv
    refine .own ?_
    cbv
    refine ⟨hi0, by rw [la']; ((try simp only [nc] at *); (try simp only [Int.ofNat_eq_natCast] at *); omega), ?_⟩
    cbv
    refine ⟨by simp only [x_nat]; exact hil, ?_⟩
    cbv
    refine .own ?_
    cbv
    refine ⟨hi0, ?_, ?_⟩
    · simp only [x_clr, x_nat, List.length_append, List.length_take, List.length_replicate]
      ((try simp only [nc] at *); (try simp only [Int.ofNat_eq_natCast] at *); omega)
    cbv
    refine hK _ _ (slE ?_)
    simp only [x_take, x_clr, x_nat]
    rw [List.take_append_of_le_length (by rw [List.length_take]; omega), List.take_take, Nat.min_self, hml, ← List.map_take, hmt, List.take_of_length_le (by ((try simp only [nc] at *); (try simp only [Int.ofNat_eq_natCast] at *); omega))]
end Go.SX.Runs
