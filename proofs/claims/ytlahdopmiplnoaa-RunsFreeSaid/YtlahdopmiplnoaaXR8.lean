/-
  Runs: how a list is divided.
-/
import Derived.Test.YtlahdopmiplnoaaXR7
namespace Go.SX.Runs
open Go Go.Proofs
def follB (b a : Place × Nat) : Bool := decide (orderP b.1 a.1.next = 0)
def cutAt (fl : List (Place × Nat)) (i : Nat) : Bool := match fl[i + 1]?, fl[i]? with | some b, some a => !follB b a | _, _ => true
def divStep (fl : List (Place × Nat)) (st : List (List (Place × Nat)) × Nat) (i : Nat) : List (List (Place × Nat)) × Nat :=
  if cutAt fl i then (st.1 ++ [(fl.take (i + 1)).drop st.2], i + 1) else st
def divTo (fl : List (Place × Nat)) (k : Nat) : List (List (Place × Nat)) × Nat := (List.range k).foldl (divStep fl) ([], 0)
def divideL (fl : List (Place × Nat)) : List (List (Place × Nat)) := (divTo fl fl.length).1
theorem divTo_succ (fl : List (Place × Nat)) (k : Nat) : divTo fl (k + 1) = divStep fl (divTo fl k) k := by
  rw [divTo, List.range_succ, List.foldl_append]; rfl
theorem divTo_le (fl : List (Place × Nat)) (k : Nat) : (divTo fl k).2 ≤ k ∧ (divTo fl k).1.length ≤ k := by
  induction k with
  | zero => exact ⟨Nat.le_refl _, Nat.le_refl _⟩
  | succ k ih =>
    rw [divTo_succ, divStep]
    split
    · simp only [List.length_append, List.length_cons, List.length_nil]; omega
    · omega
def runD (x : List (Place × Nat)) : List D := [.sl (x.map seatD)]
variable {P : Program} (hP : P = Try.prog)
include hP
theorem divideR {fl : List (Place × Nat)} {es : List (List D)} (hes : es = fl.map seatD) (hl : fl.length ≤ 1000000000) :
    Fn1 P 33 [.d (.sl es), .clo (.func 34) [] []] (.d (.sl ((divideL fl).map runD))) := by
  refine .walkD (hP ▸ d33_ok) fun K hK => ?_
  have la : es.length = fl.length := by simp [hes]
  cbv
  refine .intro (ι := List (List D) × Int × Int × Int) (fun k => [.d (.sl es), .clo (.func 34) [] [], .top, .top, .top, .hd 0, .i k.2.1, .top, .top, .i k.2.2.1, .i k.2.2.2] ++ List.replicate 33 .top) (fun k => [.row 47 1 k.1]) (fun env own => (rAt own (hAt env 5), iAt env 6, iAt env 9, iAt env 10))
    (fun k => k.2.2.1 = fl.length ∧ 0 ≤ k.2.2.2 ∧ k.2.2.2 ≤ fl.length ∧ 0 ≤ k.2.1 ∧ k.1 = (divTo fl k.2.2.2.toNat).1.map runD ∧ k.2.1 = (divTo fl k.2.2.2.toNat).2) (fun k => fl.length - k.2.2.2.toNat)
    ([], 0, (Classical.choice ioEx).1.len es, 0) ?_ (.nilrow 5 47 1 rfl (.mt [0] ?_)) fun k hk Kn hKn => ?_
  · exact ⟨by simp only [x_len, la], Int.le_refl _, Int.natCast_nonneg _, Int.le_refl _, rfl, rfl⟩
  · (cbv; repeat (refine ⟨rfl, ?_⟩; cbv))
  obtain ⟨eo, from', n, k⟩ := k
  obtain ⟨hn, hk0, hk1, hf0, ho, hf⟩ := hk
  dsimp only at hn hk0 hk1 hf0 ho hf
  obtain ⟨hd1, hd2⟩ := divTo_le fl k.toNat
  have hds := divTo_succ fl k.toNat
  generalize hdt : divTo fl k.toNat = dt at ho hf hd1 hd2 hds
  obtain ⟨o, f⟩ := dt
  dsimp only at ho hf hd1 hd2
  cbv
  refine brk (fun h => ?_) (fun h => ?_)
  · simp only [x_lt, hn, decide_eq_true_eq] at h
    have hw : IntKind.i64.wrap (k + 1) = k + 1 := wr64 (by ((try simp only [nc] at *); (try simp only [Int.ofNat_eq_natCast] at *); omega)) (by ((try simp only [nc] at *); (try simp only [Int.ofNat_eq_natCast] at *); omega))
    obtain ⟨x, hx⟩ : ∃ x, fl[k.toNat]? = some x := ⟨fl[k.toNat]'(by ((try simp only [nc] at *); (try simp only [Int.ofNat_eq_natCast] at *); omega)), by simp⟩
    have hel : eo.length ≤ 1000000000 := by rw [ho, List.length_map]; ((try simp only [nc] at *); (try simp only [Int.ofNat_eq_natCast] at *); omega)
    have h10 : ∀ ds ∈ es, ds.length = 10 := fun ds hm => by
      rw [hes] at hm
      obtain ⟨z, _, rfl⟩ := List.mem_map.1 hm
      rfl
    cbv
    refine brk (fun h1 => ?_) (fun h1 => ?_)
    · simp only [x_eq, x_add, x_len, hw, la, decide_eq_true_eq] at h1
      have hc : cutAt fl k.toNat = true := by
        rw [cutAt, List.getElem?_eq_none (by ((try simp only [nc] at *); (try simp only [Int.ofNat_eq_natCast] at *); omega))]
      rw [divStep, if_pos hc] at hds
      cbv
      refine ⟨hf0, by simp only [x_add, hw]; ((try simp only [nc] at *); (try simp only [Int.ofNat_eq_natCast] at *); omega), by simp only [x_add, hw]; ((try simp only [nc] at *); (try simp only [Int.ofNat_eq_natCast] at *); omega), h10, ?_⟩
      cbv
      refine .one rfl hel (by decide) ?_
      cbv
      refine hKn _ _ (.mt [2] ?_) ?_ ?_
      · (cbv; repeat (refine ⟨rfl, ?_⟩; cbv))
      · simp only [iAt, geti, hAt, rAt, getr, x_add, hw, x_app, x_sub]
        rw [toNat_succ hk0, hds]
        refine ⟨hn, by ((try simp only [nc] at *); (try simp only [Int.ofNat_eq_natCast] at *); omega), by ((try simp only [nc] at *); (try simp only [Int.ofNat_eq_natCast] at *); omega), by ((try simp only [nc] at *); (try simp only [Int.ofNat_eq_natCast] at *); omega), ?_, by ((try simp only [nc] at *); (try simp only [Int.ofNat_eq_natCast] at *); omega)⟩
        dsimp only
        rw [List.map_append, ho]
        congr 1
        simp only [List.map_cons, List.map_nil, runD, hes, List.map_take, List.map_drop, hf, Int.toNat_natCast]
      · simp only [iAt, geti, x_add, hw]
        ((try simp only [nc] at *); (try simp only [Int.ofNat_eq_natCast] at *); omega)
    · simp only [x_eq, x_add, x_len, hw, la, decide_eq_false_iff_not] at h1
      obtain ⟨y, hy⟩ : ∃ y, fl[k.toNat + 1]? = some y := ⟨fl[k.toNat + 1]'(by ((try simp only [nc] at *); (try simp only [Int.ofNat_eq_natCast] at *); omega)), by simp⟩
      have hc : cutAt fl k.toNat = !follB y x := by rw [cutAt, hy, hx]
      cbv
      refine .map hes (by simp only [x_add, hw]; ((try simp only [nc] at *); (try simp only [Int.ofNat_eq_natCast] at *); omega)) (by simp only [x_add, hw]; ((try simp only [nc] at *); (try simp only [Int.ofNat_eq_natCast] at *); omega)) (fun _ => rfl) fun y' hy' => ?_
      simp only [x_add, hw] at hy'
      rw [toNat_succ hk0, hy] at hy'
      obtain rfl : y = y' := by cases hy'; rfl
      obtain ⟨y, yi⟩ := y
      cbv
      refine .map hes hk0 (by ((try simp only [nc] at *); (try simp only [Int.ofNat_eq_natCast] at *); omega)) (fun _ => rfl) fun x' hx' => ?_
      rw [hx] at hx'
      obtain rfl : x = x' := by cases hx'; rfl
      obtain ⟨x, xi⟩ := x
      cbv
      refine .f1 (followsR hP y x _ _) rfl rfl ?_
      generalize hv : decide (orderP y x.next = 0) = v
      rw [show follB (y, yi) (x, xi) = v from hv] at hc
      cbv
      refine brk (fun h2 => ?_) (fun h2 => ?_)
      · simp only [x_not] at h2
        rw [divStep, if_pos (hc.trans h2)] at hds
        cbv
        refine ⟨hf0, by simp only [x_add, hw]; ((try simp only [nc] at *); (try simp only [Int.ofNat_eq_natCast] at *); omega), by simp only [x_add, hw]; ((try simp only [nc] at *); (try simp only [Int.ofNat_eq_natCast] at *); omega), h10, ?_⟩
        cbv
        refine .one rfl hel (by decide) ?_
        cbv
        refine hKn _ _ (.mt [2] ?_) ?_ ?_
        · (cbv; repeat (refine ⟨rfl, ?_⟩; cbv))
        · simp only [iAt, geti, hAt, rAt, getr, x_add, hw, x_app, x_sub]
          rw [toNat_succ hk0, hds]
          refine ⟨hn, by ((try simp only [nc] at *); (try simp only [Int.ofNat_eq_natCast] at *); omega), by ((try simp only [nc] at *); (try simp only [Int.ofNat_eq_natCast] at *); omega), by ((try simp only [nc] at *); (try simp only [Int.ofNat_eq_natCast] at *); omega), ?_, by ((try simp only [nc] at *); (try simp only [Int.ofNat_eq_natCast] at *); omega)⟩
          dsimp only
          rw [List.map_append, ho]
          congr 1
          simp only [List.map_cons, List.map_nil, runD, hes, List.map_take, List.map_drop, hf, Int.toNat_natCast]
        · simp only [iAt, geti, x_add, hw]
          ((try simp only [nc] at *); (try simp only [Int.ofNat_eq_natCast] at *); omega)
      · simp only [x_not] at h2
        rw [divStep, if_neg (by rw [hc, h2]; simp)] at hds
        cbv
        refine hKn _ _ (.mt [0] ?_) ?_ ?_
        · (cbv; repeat (refine ⟨rfl, ?_⟩; cbv))
        · simp only [iAt, geti, hAt, rAt, getr, x_add, hw]
          rw [toNat_succ hk0, hds]
          exact ⟨hn, by ((try simp only [nc] at *); (try simp only [Int.ofNat_eq_natCast] at *); omega), by ((try simp only [nc] at *); (try simp only [Int.ofNat_eq_natCast] at *); omega), hf0, ho, hf⟩
        · simp only [iAt, geti, x_add, hw]
          ((try simp only [nc] at *); (try simp only [Int.ofNat_eq_natCast] at *); omega)
  · simp only [x_lt, hn, decide_eq_false_iff_not] at h
    cbv
    refine hK _ _ (slE ?_)
    have : k.toNat = fl.length := by ((try simp only [nc] at *); (try simp only [Int.ofNat_eq_natCast] at *); omega)
    rw [divideL, ← this, hdt]; exact ho
end Go.SX.Runs
