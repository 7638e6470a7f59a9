/-
  Runs: the free seats.
-/
import Derived.Test.YtlahdopmiplnoaaXR5
import Derived.Test.YtlahdopmiplnoaaXSxT
import Derived.Test.YtlahdopmiplnoaaXCode2
namespace Go.SX.Runs
open Go Go.Proofs
theorem findIdx_take {α : Type} {q : α → Bool} {l : List α} {k : Nat} {x : α} (hx : l[k]? = some x) (h : ∀ y ∈ l.take k, q y = false) (hq : q x = true) : l.findIdx? q = some k := by
  rw [List.findIdx?_eq_some_iff_getElem]
  obtain ⟨hlt, he⟩ := List.getElem?_eq_some_iff.1 hx
  refine ⟨hlt, by rw [he]; exact hq, fun j hj => ?_⟩
  have hjl : j < l.length := by omega
  have := h l[j] (by
    have : (l.take k)[j]? = some l[j] := by rw [List.getElem?_take, if_pos hj]; simp [hjl]
    exact List.mem_of_getElem? this)
  simp [this]
def idxI (o : Option Nat) : Int := match o with | some n => n | none => -1

variable {P : Program} (hP : P = Try.prog)
include hP
theorem free1R {t : List Bool} {et : List (List D)} (het : et = t.map dB) (p : Place) (i : Int) (hi : 0 ≤ i) : Fn1 P 31 [p.at i, .fp [.sl et]] (.b (takenL t i)) := by
  obtain ⟨kind, level, block, row, seat, x, y, view, wit⟩ := p
  refine .walk (hP ▸ d31_ok) fun K hK => ?_
  cbv
  refine .f1 (isR hP i het hi) rfl rfl ?_
  generalize hv : takenL t i = v
  cbv
  exact hK _ _ (biE hv.symm)

theorem indexR {t : List Bool} {et : List (List D)} (het : et = t.map dB) {sl : List (Place × Nat)} {es : List (List D)} (hes : es = sl.map seatD) (hl : sl.length ≤ 1000000000) :
    Fn1 P 43 [.d (.sl es), .clo (.func 31) [] [.fp [.sl et]]] (.i (idxI (sl.findIdx? fun x => takenL t x.2))) := by
  refine .walk (hP ▸ d43_ok) fun K hK => ?_
  have la : (es.length : Int) = sl.length := by simp [hes]
  cbv
  refine .intro (ι := Int × Int) (fun k => [.d (.sl es), .clo (.func 31) [] [.fp [.sl et]], .top, .top, .top, .top, .top, .i k.1, .i k.2] ++ List.replicate 10 .top) (fun _ => []) (fun env _ => (iAt env 7, iAt env 8))
    (fun k => k.1 = sl.length ∧ 0 ≤ k.2 ∧ k.2 ≤ sl.length ∧ ∀ y ∈ sl.take k.2.toNat, takenL t y.2 = false) (fun k => sl.length - k.2.toNat) ((Classical.choice ioEx).1.len es, 0) ?_ (.mt [] ?_) fun k hk Kn hKn => ?_
  · exact ⟨by simp only [x_len, la], Int.le_refl _, Int.natCast_nonneg _, by simp⟩
  · (cbv; repeat (refine ⟨rfl, ?_⟩; cbv))
  obtain ⟨n, k⟩ := k
  obtain ⟨hn, hk0, hk1, hk2⟩ := hk
  dsimp only at hn hk0 hk1 hk2
  cbv
  refine brk (fun h => ?_) (fun h => ?_)
  · simp only [x_lt, hn, decide_eq_true_eq] at h
    cbv
    refine .map hes hk0 (by ((try simp only [nc] at *); (try simp only [Int.ofNat_eq_natCast] at *); omega)) (fun _ => rfl) fun x hx => ?_
    obtain ⟨x, xi⟩ := x
    cbv
    refine .f1 (free1R hP het x _ (Int.natCast_nonneg xi)) rfl rfl ?_
    generalize hv : takenL t xi = v
    cbv
    refine brk (fun h1 => ?_) (fun h1 => ?_)
    · cbv
      refine hK _ _ (inE ?_)
      have : sl.findIdx? (fun x => takenL t x.2) = some k.toNat := findIdx_take hx hk2 (hv.trans h1)
      rw [this, idxI]; ((try simp only [nc] at *); (try simp only [Int.ofNat_eq_natCast] at *); omega)
    · cbv
      refine hKn _ _ (.mt [] ?_) ?_ ?_
      · (cbv; repeat (refine ⟨rfl, ?_⟩; cbv))
      · simp only [iAt, geti, x_add]
        rw [wr64 (by ((try simp only [nc] at *); (try simp only [Int.ofNat_eq_natCast] at *); omega)) (by ((try simp only [nc] at *); (try simp only [Int.ofNat_eq_natCast] at *); omega)), toNat_succ hk0, take_succ_eq hx]
        refine ⟨hn, by ((try simp only [nc] at *); (try simp only [Int.ofNat_eq_natCast] at *); omega), by ((try simp only [nc] at *); (try simp only [Int.ofNat_eq_natCast] at *); omega), fun y hy => ?_⟩
        rcases List.mem_append.1 hy with hy | hy
        · exact hk2 y hy
        · rw [List.mem_singleton.1 hy]; exact hv.trans h1
      · simp only [iAt, geti, x_add]
        rw [wr64 (by ((try simp only [nc] at *); (try simp only [Int.ofNat_eq_natCast] at *); omega)) (by ((try simp only [nc] at *); (try simp only [Int.ofNat_eq_natCast] at *); omega))]
        ((try simp only [nc] at *); (try simp only [Int.ofNat_eq_natCast] at *); omega)
  · simp only [x_lt, hn, decide_eq_false_iff_not] at h
    rw [List.take_of_length_le (by ((try simp only [nc] at *); (try simp only [Int.ofNat_eq_natCast] at *); omega))] at hk2
    cbv
    refine hK _ _ (inE ?_)
    have : sl.findIdx? (fun x => takenL t x.2) = none := by rw [List.findIdx?_eq_none_iff]; exact hk2
    rw [this]; rfl
end Go.SX.Runs
