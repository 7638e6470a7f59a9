/-
  Runs: the loops.
-/
import Derived.Test.YtlahdopmiplnoaaXR1
namespace Go.SX.Runs
open Go Go.Proofs
theorem take_succ_eq {α : Type} {a : List α} {k : Nat} {x : α} (h : a[k]? = some x) : a.take (k + 1) = a.take k ++ [x] := by
  rw [List.take_add_one, h]; rfl
theorem toNat_succ {k : Int} (h : 0 ≤ k) : (k + 1).toNat = k.toNat + 1 := by omega
variable {P : Program} (hP : P = Try.prog)
include hP
theorem intsR {a b : List Int} {ea eb : List (List D)} (hea : ea = a.map dI) (heb : eb = b.map dI) (ha : a.length ≤ 1000000000) : Fn1 P 19 [.d (.sl ea), .d (.sl eb)] (.b (decide (a = b))) := by
  refine .walk (hP ▸ d19_ok) fun K hK => ?_
  have la : (ea.length : Int) = a.length := by simp [hea]
  have lb : (eb.length : Int) = b.length := by simp [heb]
  cbv
  refine brk (fun h => ?_) (fun h => ?_)
  · cbv
    refine hK _ _ (biE ?_)
    simp only [x_not, x_eq, x_len, la, lb, Bool.not_eq_true', decide_eq_false_iff_not] at h
    exact (decide_eq_false fun e => h (by rw [e])).symm
  simp only [x_not, x_eq, x_len, la, lb, Bool.not_eq_false', decide_eq_true_eq] at h
  cbv
  refine .intro (ι := Int) (fun k => [.d (.sl ea), .d (.sl eb), .top, .top, .top, .i k] ++ List.replicate 20 .top) (fun _ => []) (fun env _ => iAt env 5)
    (fun k => 0 ≤ k ∧ k ≤ a.length ∧ a.take k.toNat = b.take k.toNat) (fun k => a.length - k.toNat) 0 ?_ (.mt [] ?_) fun k hk Kn hKn => ?_
  · simp
  · (cbv; repeat (refine ⟨rfl, ?_⟩; cbv))
  obtain ⟨hk0, hk1, hk2⟩ := hk
  cbv
  refine brk (fun h => ?_) (fun h => ?_)
  · simp only [x_lt, x_len, la, decide_eq_true_eq] at h
    cbv
    refine .map hea hk0 (by ((try simp only [nc] at *); (try simp only [Int.ofNat_eq_natCast] at *); omega)) (fun _ => rfl) fun x hx => ?_
    cbv
    refine .map heb hk0 (by ((try simp only [nc] at *); (try simp only [Int.ofNat_eq_natCast] at *); omega)) (fun _ => rfl) fun y hy => ?_
    cbv
    refine brk (fun h1 => ?_) (fun h1 => ?_)
    · simp only [x_not, x_eq, Bool.not_eq_true', decide_eq_false_iff_not] at h1
      cbv
      refine hK _ _ (biE (decide_eq_false fun e => ?_).symm)
      subst e
      rw [hx] at hy; cases hy; exact h1 rfl
    · simp only [x_not, x_eq, Bool.not_eq_false', decide_eq_true_eq] at h1
      subst h1
      cbv
      refine hKn _ _ (.mt [] ?_) ?_ ?_
      · (cbv; repeat (refine ⟨rfl, ?_⟩; cbv))
      · simp only [iAt, geti, x_add]
        rw [wr64 (by ((try simp only [nc] at *); (try simp only [Int.ofNat_eq_natCast] at *); omega)) (by ((try simp only [nc] at *); (try simp only [Int.ofNat_eq_natCast] at *); omega)), toNat_succ hk0, take_succ_eq hx, take_succ_eq hy, hk2]
        exact ⟨by ((try simp only [nc] at *); (try simp only [Int.ofNat_eq_natCast] at *); omega), by ((try simp only [nc] at *); (try simp only [Int.ofNat_eq_natCast] at *); omega), rfl⟩
      · simp only [iAt, geti, x_add]
        rw [wr64 (by ((try simp only [nc] at *); (try simp only [Int.ofNat_eq_natCast] at *); omega)) (by ((try simp only [nc] at *); (try simp only [Int.ofNat_eq_natCast] at *); omega))]
        ((try simp only [nc] at *); (try simp only [Int.ofNat_eq_natCast] at *); omega)
  · simp only [x_lt, x_len, la, decide_eq_false_iff_not] at h
    cbv
    refine hK _ _ (biE (decide_eq_true ?_).symm)
    rwa [List.take_of_length_le (by ((try simp only [nc] at *); (try simp only [Int.ofNat_eq_natCast] at *); omega)), List.take_of_length_le (by ((try simp only [nc] at *); (try simp only [Int.ofNat_eq_natCast] at *); omega))] at hk2

theorem listsR {a b : List (List Int)} {ea eb : List (List D)} (hea : ea = a.map dL) (heb : eb = b.map dL) (ha : a.length ≤ 1000000000) (ha' : ∀ x ∈ a, x.length ≤ 1000000000) : Fn1 P 12 [.d (.sl ea), .d (.sl eb)] (.b (decide (a = b))) := by
  refine .walk (hP ▸ d12_ok) fun K hK => ?_
  have la : (ea.length : Int) = a.length := by simp [hea]
  have lb : (eb.length : Int) = b.length := by simp [heb]
  cbv
  refine brk (fun h => ?_) (fun h => ?_)
  · cbv
    refine hK _ _ (biE ?_)
    simp only [x_not, x_eq, x_len, la, lb, Bool.not_eq_true', decide_eq_false_iff_not] at h
    exact (decide_eq_false fun e => h (by rw [e])).symm
  simp only [x_not, x_eq, x_len, la, lb, Bool.not_eq_false', decide_eq_true_eq] at h
  cbv
  refine .intro (ι := Int) (fun k => [.d (.sl ea), .d (.sl eb), .top, .top, .top, .i k] ++ List.replicate 21 .top) (fun _ => []) (fun env _ => iAt env 5)
    (fun k => 0 ≤ k ∧ k ≤ a.length ∧ a.take k.toNat = b.take k.toNat) (fun k => a.length - k.toNat) 0 ?_ (.mt [] ?_) fun k hk Kn hKn => ?_
  · simp
  · (cbv; repeat (refine ⟨rfl, ?_⟩; cbv))
  obtain ⟨hk0, hk1, hk2⟩ := hk
  cbv
  refine brk (fun h => ?_) (fun h => ?_)
  · simp only [x_lt, x_len, la, decide_eq_true_eq] at h
    cbv
    refine .lists hea hk0 (by ((try simp only [nc] at *); (try simp only [Int.ofNat_eq_natCast] at *); omega)) fun x ex hx hex => ?_
    cbv
    refine .lists heb hk0 (by ((try simp only [nc] at *); (try simp only [Int.ofNat_eq_natCast] at *); omega)) fun y ey hy hey => ?_
    cbv
    refine .f1 (intsR hP hex hey (ha' x (List.mem_of_getElem? hx))) rfl rfl ?_
    generalize hv : decide (x = y) = v
    cbv
    refine brk (fun h1 => ?_) (fun h1 => ?_)
    · simp only [x_not, Bool.not_eq_true', ← hv, decide_eq_false_iff_not] at h1
      cbv
      refine hK _ _ (biE (decide_eq_false fun e => ?_).symm)
      subst e
      rw [hx] at hy; cases hy; exact h1 rfl
    · simp only [x_not, Bool.not_eq_false', ← hv, decide_eq_true_eq] at h1
      subst h1
      cbv
      refine hKn _ _ (.mt [] ?_) ?_ ?_
      · (cbv; repeat (refine ⟨rfl, ?_⟩; cbv))
      · simp only [iAt, geti, x_add]
        rw [wr64 (by ((try simp only [nc] at *); (try simp only [Int.ofNat_eq_natCast] at *); omega)) (by ((try simp only [nc] at *); (try simp only [Int.ofNat_eq_natCast] at *); omega)), toNat_succ hk0, take_succ_eq hx, take_succ_eq hy, hk2]
        exact ⟨by ((try simp only [nc] at *); (try simp only [Int.ofNat_eq_natCast] at *); omega), by ((try simp only [nc] at *); (try simp only [Int.ofNat_eq_natCast] at *); omega), rfl⟩
      · simp only [iAt, geti, x_add]
        rw [wr64 (by ((try simp only [nc] at *); (try simp only [Int.ofNat_eq_natCast] at *); omega)) (by ((try simp only [nc] at *); (try simp only [Int.ofNat_eq_natCast] at *); omega))]
        ((try simp only [nc] at *); (try simp only [Int.ofNat_eq_natCast] at *); omega)
  · simp only [x_lt, x_len, la, decide_eq_false_iff_not] at h
    cbv
    refine hK _ _ (biE (decide_eq_true ?_).symm)
    rwa [List.take_of_length_le (by ((try simp only [nc] at *); (try simp only [Int.ofNat_eq_natCast] at *); omega)), List.take_of_length_le (by ((try simp only [nc] at *); (try simp only [Int.ofNat_eq_natCast] at *); omega))] at hk2

theorem inR {a : List Int} {ea : List (List D)} (n : Int) (hea : ea = a.map dI) (ha : a.length ≤ 1000000000) : Fn1 P 27 [.d (.sl ea), .i n] (.b (decide (n ∈ a))) := by
  refine .walk (hP ▸ d27_ok) fun K hK => ?_
  have la : (ea.length : Int) = a.length := by simp [hea]
  cbv
  refine .intro (ι := Int) (fun k => [.d (.sl ea), .i n, .top, .top, .top, .i k] ++ List.replicate 12 .top) (fun _ => []) (fun env _ => iAt env 5)
    (fun k => 0 ≤ k ∧ k ≤ a.length ∧ n ∉ a.take k.toNat) (fun k => a.length - k.toNat) 0 ?_ (.mt [] ?_) fun k hk Kn hKn => ?_
  · simp
  · (cbv; repeat (refine ⟨rfl, ?_⟩; cbv))
  obtain ⟨hk0, hk1, hk2⟩ := hk
  cbv
  refine brk (fun h => ?_) (fun h => ?_)
  · simp only [x_lt, x_len, la, decide_eq_true_eq] at h
    cbv
    refine .map hea hk0 (by ((try simp only [nc] at *); (try simp only [Int.ofNat_eq_natCast] at *); omega)) (fun _ => rfl) fun x hx => ?_
    cbv
    refine brk (fun h1 => ?_) (fun h1 => ?_)
    · simp only [x_eq, decide_eq_true_eq] at h1
      cbv
      refine hK _ _ (biE (decide_eq_true ?_).symm)
      exact h1 ▸ List.mem_of_getElem? hx
    · simp only [x_eq, decide_eq_false_iff_not] at h1
      cbv
      refine hKn _ _ (.mt [] ?_) ?_ ?_
      · (cbv; repeat (refine ⟨rfl, ?_⟩; cbv))
      · simp only [iAt, geti, x_add]
        rw [wr64 (by ((try simp only [nc] at *); (try simp only [Int.ofNat_eq_natCast] at *); omega)) (by ((try simp only [nc] at *); (try simp only [Int.ofNat_eq_natCast] at *); omega)), toNat_succ hk0, take_succ_eq hx]
        exact ⟨by ((try simp only [nc] at *); (try simp only [Int.ofNat_eq_natCast] at *); omega), by ((try simp only [nc] at *); (try simp only [Int.ofNat_eq_natCast] at *); omega), by simp only [List.mem_append, List.mem_singleton, hk2, false_or]; exact fun e => h1 e.symm⟩
      · simp only [iAt, geti, x_add]
        rw [wr64 (by ((try simp only [nc] at *); (try simp only [Int.ofNat_eq_natCast] at *); omega)) (by ((try simp only [nc] at *); (try simp only [Int.ofNat_eq_natCast] at *); omega))]
        ((try simp only [nc] at *); (try simp only [Int.ofNat_eq_natCast] at *); omega)
  · simp only [x_lt, x_len, la, decide_eq_false_iff_not] at h
    cbv
    refine hK _ _ (biE (decide_eq_false ?_).symm)
    rwa [List.take_of_length_le (by ((try simp only [nc] at *); (try simp only [Int.ofNat_eq_natCast] at *); omega))] at hk2

def takenL (l : List Bool) (i : Int) : Bool := decide (0 ≤ i) && l.getD i.toNat false
omit hP in
theorem getD_of {l : List Bool} {i : Nat} {x : Bool} (h : l[i]? = some x) : l.getD i false = x := by simp [h]
theorem takenR {l : List Bool} {el : List (List D)} (i : Int) (hel : el = l.map dB) : Fn1 P 25 [.d (.sl el), .i i] (.b (takenL l i)) := by
  refine .walk (hP ▸ d25_ok) fun K hK => ?_
  have la : (el.length : Int) = l.length := by simp [hel]
  cbv
  refine brk (fun h => ?_) (fun h => ?_)
  · simp only [x_le, decide_eq_true_eq] at h
    cbv
    refine brk (fun h1 => ?_) (fun h1 => ?_)
    · simp only [x_lt, x_len, la, decide_eq_true_eq] at h1
      cbv
      refine .map hel h (by ((try simp only [nc] at *); (try simp only [Int.ofNat_eq_natCast] at *); omega)) (fun _ => rfl) fun x hx => ?_
      cbv
      refine hK _ _ (biE ?_)
      simp only [takenL, h, decide_true, Bool.true_and, getD_of hx]
    · simp only [x_lt, x_len, la, decide_eq_false_iff_not] at h1
      cbv
      refine hK _ _ (biE ?_)
      rw [takenL, List.getD_eq_getElem?_getD, List.getElem?_eq_none (by ((try simp only [nc] at *); (try simp only [Int.ofNat_eq_natCast] at *); omega))]
      simp
  · simp only [x_le, decide_eq_false_iff_not] at h
    cbv
    refine hK _ _ (biE ?_)
    simp [takenL, h]
theorem isR {l : List Bool} {el : List (List D)} (i : Int) (hel : el = l.map dB) (hi : 0 ≤ i) : Fn1 P 32 [.d (.sl el), .i i] (.b (takenL l i)) := by
  refine .walk (hP ▸ d32_ok) fun K hK => ?_
  have la : (el.length : Int) = l.length := by simp [hel]
  cbv
  refine brk (fun h1 => ?_) (fun h1 => ?_)
  · simp only [x_lt, x_len, la, decide_eq_true_eq] at h1
    cbv
    refine .map hel hi (by ((try simp only [nc] at *); (try simp only [Int.ofNat_eq_natCast] at *); omega)) (fun _ => rfl) fun x hx => ?_
    cbv
    refine hK _ _ (biE ?_)
    simp only [takenL, hi, decide_true, Bool.true_and, getD_of hx]
  · simp only [x_lt, x_len, la, decide_eq_false_iff_not] at h1
    cbv
    refine hK _ _ (biE ?_)
    rw [takenL, List.getD_eq_getElem?_getD, List.getElem?_eq_none (by ((try simp only [nc] at *); (try simp only [Int.ofNat_eq_natCast] at *); omega))]
    simp
end Go.SX.Runs
