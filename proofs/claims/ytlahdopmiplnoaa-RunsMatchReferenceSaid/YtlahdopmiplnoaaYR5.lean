/-
  Runs: the seats of a list.
-/
import Derived.Test.YtlahdopmiplnoaaYR1
import Derived.Test.YtlahdopmiplnoaaYSxS
import Derived.Test.YtlahdopmiplnoaaYCode2
set_option linter.unusedSimpArgs false
set_option linter.unusedVariables false
set_option linter.unusedSectionVars false
namespace Go.SX.Runs
open Go Go.Proofs

def seatD (x : Place × Nat) : List D := [dv x.1.kind, dv x.1.level, dv x.1.block, dv x.1.row, dv x.1.seat, dv x.1.x, dv x.1.y, dv x.1.view, dv x.1.wit, dv x.2]
def seatsOk (l : List Place) : Bool := adj (fun a b => decide (orderP a.1 b.1 < 0)) (seatsL l)

theorem seatsL_len (l : List Place) : (seatsL l).length ≤ l.length := by
  rw [seatsL]
  exact Nat.le_trans (List.length_filter_le _ _) (by simp)

variable {P : Program} (hP : P = Try.prog)
include hP
theorem seatsR0 {l : List Place} {el : List (List D)} (hel : el = l.map Place.ds) (hl : l.length ≤ 1000000000) :
    SCall P 29 [] [.d (.sl el)] (fun sv own' => (seatsOk l = true ∧ sv = .tup [.hd 0, .b true] ∧ own' = [.row 52 10 ((seatsL l).map seatD)]) ∨ (seatsOk l = false ∧ sv = .tup [.d (.val (.slice none 0 0)), .b false] ∧ ∃ es0, own' = [.row 52 10 es0])) := by
  refine .walk (hP ▸ d29_ok) fun K hK => ?_
  have la : (el.length : Int) = l.length := by simp [hel]
  cbv
  refine .intro (ι := List (List D) × Int × Int) (fun k => [.d (.sl el), .top, .top, .top, .hd 0, .top, .top, .top, .d (.sl el), .i k.2.1, .i k.2.2] ++ List.replicate 32 .top) (fun k => [.row 52 10 k.1]) (fun env own => (rAt own (hAt env 4), iAt env 9, iAt env 10))
    (fun k => k.2.1 = l.length ∧ 0 ≤ k.2.2 ∧ k.2.2 ≤ l.length ∧ k.1 = (seatsL (l.take k.2.2.toNat)).map seatD) (fun k => l.length - k.2.2.toNat) ([], (Classical.choice ioEx).1.len el, 0) ?_ (.nilrow 4 52 10 rfl (.mt [0] ?_)) fun k hk Kn hKn => ?_
  · exact ⟨by simp only [x_len, la], Int.le_refl _, Int.natCast_nonneg _, rfl⟩
  · (cbv; repeat (refine ⟨rfl, ?_⟩; cbv))
  obtain ⟨es, n, k⟩ := k
  obtain ⟨hn, hk0, hk1, hk2⟩ := hk
  dsimp only at hn hk0 hk1 hk2
  cbv
  refine brk (fun h => ?_) (fun h => ?_)
  · simp only [x_lt, hn, decide_eq_true_eq] at h
    cbv
    refine .map hel hk0 (by ((try simp only [nc] at *); (try simp only [Int.ofNat_eq_natCast] at *); omega)) (fun _ => rfl) fun x hx => ?_
    have hst := seatsL_take hx
    cbv
    refine brk (fun h1 => ?_) (fun h1 => ?_)
    · simp only [x_le, decide_eq_true_eq] at h1
      have hs : isSeat x = true := decide_eq_true h1
      rw [hs, if_pos rfl] at hst
      have hes : (es.length : Int) ≤ k := by
        rw [hk2, List.length_map]
        have := seatsL_len (l.take k.toNat)
        rw [List.length_take] at this
        ((try simp only [nc] at *); (try simp only [Int.ofNat_eq_natCast] at *); omega)
      cbv
      refine .one rfl (by ((try simp only [nc] at *); (try simp only [Int.ofNat_eq_natCast] at *); omega)) (by decide) ?_
      cbv
      refine hKn _ _ (.mt [3] ?_) ?_ ?_
      · (cbv; repeat (refine ⟨rfl, ?_⟩; cbv))
      · simp only [iAt, geti, hAt, rAt, getr, x_add, x_app]
        rw [wr64 (by ((try simp only [nc] at *); (try simp only [Int.ofNat_eq_natCast] at *); omega)) (by ((try simp only [nc] at *); (try simp only [Int.ofNat_eq_natCast] at *); omega)), toNat_succ hk0]
        refine ⟨hn, by ((try simp only [nc] at *); (try simp only [Int.ofNat_eq_natCast] at *); omega), by ((try simp only [nc] at *); (try simp only [Int.ofNat_eq_natCast] at *); omega), ?_⟩
        rw [hst, List.map_append, hk2]
        congr 1
        simp only [List.map_cons, List.map_nil, seatD, Int.toNat_of_nonneg hk0]
      · simp only [iAt, geti, x_add]
        rw [wr64 (by ((try simp only [nc] at *); (try simp only [Int.ofNat_eq_natCast] at *); omega)) (by ((try simp only [nc] at *); (try simp only [Int.ofNat_eq_natCast] at *); omega))]
        ((try simp only [nc] at *); (try simp only [Int.ofNat_eq_natCast] at *); omega)
    · simp only [x_le, decide_eq_false_iff_not] at h1
      have hs : isSeat x = false := decide_eq_false h1
      rw [hs, if_neg (by simp), List.append_nil] at hst
      cbv
      refine hKn _ _ (.mt [0] ?_) ?_ ?_
      · (cbv; repeat (refine ⟨rfl, ?_⟩; cbv))
      · simp only [iAt, geti, hAt, rAt, getr, x_add]
        rw [wr64 (by ((try simp only [nc] at *); (try simp only [Int.ofNat_eq_natCast] at *); omega)) (by ((try simp only [nc] at *); (try simp only [Int.ofNat_eq_natCast] at *); omega)), toNat_succ hk0]
        exact ⟨hn, by ((try simp only [nc] at *); (try simp only [Int.ofNat_eq_natCast] at *); omega), by ((try simp only [nc] at *); (try simp only [Int.ofNat_eq_natCast] at *); omega), by rw [hst]; exact hk2⟩
      · simp only [iAt, geti, x_add]
        rw [wr64 (by ((try simp only [nc] at *); (try simp only [Int.ofNat_eq_natCast] at *); omega)) (by ((try simp only [nc] at *); (try simp only [Int.ofNat_eq_natCast] at *); omega))]
        ((try simp only [nc] at *); (try simp only [Int.ofNat_eq_natCast] at *); omega)
  · simp only [x_lt, hn, decide_eq_false_iff_not] at h
    rw [List.take_of_length_le (by ((try simp only [nc] at *); (try simp only [Int.ofNat_eq_natCast] at *); omega))] at hk2
    have hes : es.length = (seatsL l).length := by rw [hk2, List.length_map]
    have hsl := seatsL_len l
    generalize hsL : seatsL l = sl at hk2 hes hsl
    cbv
    clear Kn hKn hk0 hk1 h hn hel la
    refine .intro (ι := Int) (fun k => [.top, .top, .top, .top, .hd 0, .top, .top, .i k] ++ List.replicate 35 .top) (fun _ => [.row 52 10 es]) (fun env _ => iAt env 7)
      (fun k => 1 ≤ k ∧ (k ≤ sl.length ∨ k = 1) ∧ adj (fun a b => decide (orderP a.1 b.1 < 0)) (sl.take k.toNat) = true) (fun k => sl.length - k.toNat) 1 ?_ (.mt [0] ?_) fun k hk Kn hKn => ?_
    · refine ⟨Int.le_refl _, .inr rfl, ?_⟩
      cases sl with
      | nil => rfl
      | cons a l => rfl
    · (cbv; repeat (refine ⟨rfl, ?_⟩; cbv))
    obtain ⟨hk0, hk1, hk3⟩ := hk
    cbv
    refine brk (fun h => ?_) (fun h => ?_)
    · simp only [x_lt, x_len, hes, decide_eq_true_eq] at h
      have w1 : IntKind.i64.wrap (k - 1) = k - 1 := wr64 (by ((try simp only [nc] at *); (try simp only [Int.ofNat_eq_natCast] at *); omega)) (by ((try simp only [nc] at *); (try simp only [Int.ofNat_eq_natCast] at *); omega))
      have hkn : (k - 1).toNat + 1 = k.toNat := by omega
      have hlt : k.toNat < sl.length := by ((try simp only [nc] at *); (try simp only [Int.ofNat_eq_natCast] at *); omega)
      cbv
      refine ⟨by simp only [x_subi, w1]; ((try simp only [nc] at *); (try simp only [Int.ofNat_eq_natCast] at *); omega), by simp only [x_subi, w1, hes]; ((try simp only [nc] at *); (try simp only [Int.ofNat_eq_natCast] at *); omega), ?_⟩
      cbv
      refine .map hk2 (by simp only [x_nat, x_subi, w1]; ((try simp only [nc] at *); (try simp only [Int.ofNat_eq_natCast] at *); omega)) fun x hx => ?_
      simp only [x_nat, x_subi, w1] at hx
      obtain ⟨x, xi⟩ := x
      cbv
      refine ⟨by ((try simp only [nc] at *); (try simp only [Int.ofNat_eq_natCast] at *); omega), by rw [hes]; ((try simp only [nc] at *); (try simp only [Int.ofNat_eq_natCast] at *); omega), ?_⟩
      cbv
      refine .map hk2 (by simp only [x_nat]; ((try simp only [nc] at *); (try simp only [Int.ofNat_eq_natCast] at *); omega)) fun y hy => ?_
      simp only [x_nat] at hy
      obtain ⟨y, yi⟩ := y
      have hadj := adj_snoc (fun a b : Place × Nat => decide (orderP a.1 b.1 < 0)) (y, yi) (sl.take k.toNat)
      have hla : (sl.take k.toNat).getLast? = some (x, xi) := by
        rw [← hkn, take_succ_eq hx, List.getLast?_append]; rfl
      rw [hla, ← take_succ_eq hy, hk3, Bool.true_and] at hadj
      dsimp only at hadj
      cbv
      refine .f1 (orderR hP x y _ _) rfl rfl ?_
      generalize hv : orderP x y = v
      rw [hv] at hadj
      cbv
      refine brk (fun h1 => ?_) (fun h1 => ?_)
      · simp only [x_le, decide_eq_true_eq] at h1
        cbv
        refine hK _ _ ?_
        have : seatsOk l = false := by
          rw [seatsOk, hsL]
          cases ha : adj (fun a b : Place × Nat => decide (orderP a.1 b.1 < 0)) sl with
          | false => rfl
          | true =>
            rw [← List.take_append_drop (k.toNat + 1) sl] at ha
            rw [adj_append _ _ _ ha] at hadj
            have := of_decide_eq_true hadj.symm
            omega
        exact .inr ⟨this, rfl, es, rfl⟩
      · simp only [x_le, decide_eq_false_iff_not] at h1
        cbv
        refine hKn _ _ (.mt [0] ?_) ?_ ?_
        · (cbv; repeat (refine ⟨rfl, ?_⟩; cbv))
        · simp only [iAt, geti, x_add]
          rw [wr64 (by ((try simp only [nc] at *); (try simp only [Int.ofNat_eq_natCast] at *); omega)) (by ((try simp only [nc] at *); (try simp only [Int.ofNat_eq_natCast] at *); omega)), toNat_succ (by omega)]
          refine ⟨by ((try simp only [nc] at *); (try simp only [Int.ofNat_eq_natCast] at *); omega), .inl (by ((try simp only [nc] at *); (try simp only [Int.ofNat_eq_natCast] at *); omega)), ?_⟩
          rw [hadj]; exact decide_eq_true (by omega)
        · simp only [iAt, geti, x_add]
          rw [wr64 (by ((try simp only [nc] at *); (try simp only [Int.ofNat_eq_natCast] at *); omega)) (by ((try simp only [nc] at *); (try simp only [Int.ofNat_eq_natCast] at *); omega))]
          ((try simp only [nc] at *); (try simp only [Int.ofNat_eq_natCast] at *); omega)
    · simp only [x_lt, x_len, hes, decide_eq_false_iff_not] at h
      rw [List.take_of_length_le (by ((try simp only [nc] at *); (try simp only [Int.ofNat_eq_natCast] at *); omega))] at hk3
      cbv
      refine hK _ _ ?_
      have : seatsOk l = true := by rw [seatsOk, hsL]; exact hk3
      exact .inl ⟨this, rfl, by rw [hsL, ← hk2]⟩

theorem seatsR {l : List Place} {el : List (List D)} (hel : el = l.map Place.ds) (hl : l.length ≤ 1000000000) :
    Fn1 P 29 [.d (.sl el)] (.tup [.d (.sl (if seatsOk l then (seatsL l).map seatD else [])), .b (seatsOk l)]) := by
  refine (seatsR0 hP hel hl).data fun sv own' h => ?_
  rcases h with ⟨h1, rfl, rfl⟩ | ⟨h1, rfl, es0, rfl⟩
  · rw [h1]; rfl
  · rw [h1]; rfl
end Go.SX.Runs
/-
  Runs: the free seats.
-/
namespace Go.SX.Runs
open Go Go.Proofs
theorem findIdx_take {α : Type} {q : α → Bool} {l : List α} {k : Nat} {x : α} (hx : l[k]? = some x) (h : ∀ y ∈ l.take k, q y = false) (hq : q x = true) : l.findIdx? q = some k := by
  rw [List.findIdx?_eq_some_iff_getElem]
  obtain ⟨hlt, he⟩ := List.getElem?_eq_some_iff.1 hx
  refine ⟨hlt, by rw [he]; exact hq, fun j hj => ?_⟩
  have hjl : j < l.length := by omega
  have := h l[j] (by
    have : (l.take k)[j]? = some l[j] := by rw [List.getElem?_take, if_pos hj]; simp [hjl]
    exact List.mem_of_getElem? this)
  simp [this]
def idxI (o : Option Nat) : Int := match o with | some n => n | none => -1

variable {P : Program} (hP : P = Try.prog)
include hP
theorem free1R {t : List Bool} {et : List (List D)} (het : et = t.map dB) (p : Place) (i : Int) (hi : 0 ≤ i) : Fn1 P 31 [p.at i, .fp [.sl et]] (.b (takenL t i)) := by
  obtain ⟨kind, level, block, row, seat, x, y, view, wit⟩ := p
  refine .walk (hP ▸ d31_ok) fun K hK => ?_
  cbv
  refine .f1 (isR hP i het hi) rfl rfl ?_
  generalize hv : takenL t i = v
  cbv
  exact hK _ _ (biE hv.symm)

theorem indexR {t : List Bool} {et : List (List D)} (het : et = t.map dB) {sl : List (Place × Nat)} {es : List (List D)} (hes : es = sl.map seatD) (hl : sl.length ≤ 1000000000) :
    Fn1 P 43 [.d (.sl es), .clo (.func 31) [] [.fp [.sl et]]] (.i (idxI (sl.findIdx? fun x => takenL t x.2))) := by
  refine .walk (hP ▸ d43_ok) fun K hK => ?_
  have la : (es.length : Int) = sl.length := by simp [hes]
  cbv
  refine .intro (ι := Int × Int) (fun k => [.d (.sl es), .clo (.func 31) [] [.fp [.sl et]], .top, .top, .top, .top, .top, .i k.1, .i k.2] ++ List.replicate 10 .top) (fun _ => []) (fun env _ => (iAt env 7, iAt env 8))
    (fun k => k.1 = sl.length ∧ 0 ≤ k.2 ∧ k.2 ≤ sl.length ∧ ∀ y ∈ sl.take k.2.toNat, takenL t y.2 = false) (fun k => sl.length - k.2.toNat) ((Classical.choice ioEx).1.len es, 0) ?_ (.mt [] ?_) fun k hk Kn hKn => ?_
  · exact ⟨by simp only [x_len, la], Int.le_refl _, Int.natCast_nonneg _, by simp⟩
  · (cbv; repeat (refine ⟨rfl, ?_⟩; cbv))
  obtain ⟨n, k⟩ := k
  obtain ⟨hn, hk0, hk1, hk2⟩ := hk
  dsimp only at hn hk0 hk1 hk2
  cbv
  refine brk (fun h => ?_) (fun h => ?_)
  · simp only [x_lt, hn, decide_eq_true_eq] at h
    cbv
    refine .map hes hk0 (by ((try simp only [nc] at *); (try simp only [Int.ofNat_eq_natCast] at *); omega)) (fun _ => rfl) fun x hx => ?_
    obtain ⟨x, xi⟩ := x
    cbv
    refine .f1 (free1R hP het x _ (Int.natCast_nonneg xi)) rfl rfl ?_
    generalize hv : takenL t xi = v
    cbv
    refine brk (fun h1 => ?_) (fun h1 => ?_)
    · cbv
      refine hK _ _ (inE ?_)
      have : sl.findIdx? (fun x => takenL t x.2) = some k.toNat := findIdx_take hx hk2 (hv.trans h1)
      rw [this, idxI]; ((try simp only [nc] at *); (try simp only [Int.ofNat_eq_natCast] at *); omega)
    · cbv
      refine hKn _ _ (.mt [] ?_) ?_ ?_
      · (cbv; repeat (refine ⟨rfl, ?_⟩; cbv))
      · simp only [iAt, geti, x_add]
        rw [wr64 (by ((try simp only [nc] at *); (try simp only [Int.ofNat_eq_natCast] at *); omega)) (by ((try simp only [nc] at *); (try simp only [Int.ofNat_eq_natCast] at *); omega)), toNat_succ hk0, take_succ_eq hx]
        refine ⟨hn, by ((try simp only [nc] at *); (try simp only [Int.ofNat_eq_natCast] at *); omega), by ((try simp only [nc] at *); (try simp only [Int.ofNat_eq_natCast] at *); omega), fun y hy => ?_⟩
        rcases List.mem_append.1 hy with hy | hy
        · exact hk2 y hy
        · rw [List.mem_singleton.1 hy]; exact hv.trans h1
      · simp only [iAt, geti, x_add]
        rw [wr64 (by ((try simp only [nc] at *); (try simp only [Int.ofNat_eq_natCast] at *); omega)) (by ((try simp only [nc] at *); (try simp only [Int.ofNat_eq_natCast] at *); omega))]
        ((try simp only [nc] at *); (try simp only [Int.ofNat_eq_natCast] at *); omega)
  · simp only [x_lt, hn, decide_eq_false_iff_not] at h
    rw [List.take_of_length_le (by ((try simp only [nc] at *); (try simp only [Int.ofNat_eq_natCast] at *); omega))] at hk2
    cbv
    refine hK _ _ (inE ?_)
    have : sl.findIdx? (fun x => takenL t x.2) = none := by rw [List.findIdx?_eq_none_iff]; exact hk2
    rw [this]; rfl
end Go.SX.Runs
/-
  Runs: what is deleted from the seats.
-/
namespace Go.SX.Runs
open Go Go.Proofs
def freeL (t : List Bool) (sl : List (Place × Nat)) : List (Place × Nat) := sl.filter fun x => !takenL t x.2
theorem freeL_snoc (t : List Bool) (l : List (Place × Nat)) (x : Place × Nat) : freeL t (l ++ [x]) = freeL t l ++ (if takenL t x.2 then [] else [x]) := by
  rw [freeL, freeL, List.filter_append]
  congr 1
  cases h : takenL t x.2 <;> simp [h]
theorem freeL_len (t : List Bool) (l : List (Place × Nat)) : (freeL t l).length ≤ l.length := List.length_filter_le _ _
theorem freeL_all {t : List Bool} {l : List (Place × Nat)} (h : ∀ x ∈ l, takenL t x.2 = false) : freeL t l = l := by
  rw [freeL, List.filter_eq_self]
  intro x hx; simp [h x hx]
variable {P : Program} (hP : P = Try.prog)
include hP
theorem deleteR {t : List Bool} {et : List (List D)} (het : et = t.map dB) {sl : List (Place × Nat)} {es : List (List D)} (hes : es = sl.map seatD) (hl : sl.length ≤ 1000000000) :
    SCall P 30 [.row 52 10 es] [.hd 0, .clo (.func 31) [] [.fp [.sl et]]] (fun sv own' => sv = .d (.sl ((freeL t sl).map seatD)) ∧ own' = [.gone]) := by
  refine .walkC (hP ▸ d30_ok) rfl fun K hK => ?_
  have la : es.length = sl.length := by simp [hes]
  cbv
  refine .lent [] (indexR hP het hes hl) rfl ?_
  generalize hv : idxI _ = v
  cbv
  refine brk (fun h => ?_) (fun h => ?_)
  · simp only [x_eq, decide_eq_true_eq] at h
    cbv
    refine hK _ _ (slE ?_)
    have hno : sl.findIdx? (fun x => takenL t x.2) = none := by
      cases hf : sl.findIdx? (fun x => takenL t x.2) with
      | none => rfl
      | some n => rw [hf] at hv; simp only [idxI] at hv; omega
    rw [List.findIdx?_eq_none_iff] at hno
    rw [freeL_all (by simpa using hno), hes]
  simp only [x_eq, decide_eq_false_iff_not] at h
  obtain ⟨n, hf, hvn⟩ : ∃ n, sl.findIdx? (fun x => takenL t x.2) = some n ∧ v = Int.ofNat n := by
    cases hf : sl.findIdx? (fun x => takenL t x.2) with
    | none => rw [hf] at hv; exact (h hv.symm).elim
    | some n => rw [hf] at hv; exact ⟨n, rfl, hv.symm⟩
  rw [List.findIdx?_eq_some_iff_getElem] at hf
  obtain ⟨hn1, hn2, hn3⟩ := hf
  cbv
  refine .intro (ι := Int × Int × List (List D)) (fun k => [.hd 0, .clo (.func 31) [] [.fp [.sl et]], .top, .top, .top, .i k.1, .i k.2.1] ++ List.replicate 35 .top) (fun k => [.row 52 10 k.2.2]) (fun env own => (iAt env 5, iAt env 6, rAt own 0))
    (fun k => ∃ ml : List (Place × Nat), k.2.2 = ml.map seatD ∧ ml.length = sl.length ∧ 0 ≤ k.1 ∧ k.1 < k.2.1 ∧ k.2.1 ≤ sl.length ∧ ml.take k.1.toNat = freeL t (sl.take k.2.1.toNat) ∧ ml.drop k.2.1.toNat = sl.drop k.2.1.toNat) (fun k => sl.length - k.2.1.toNat)
    (v, (Classical.choice ioEx).1.ar .add .i64 v 1, es) ?_ (.mtn [0] ?_) fun k hk Kn hKn => ?_
  · simp only [x_add]
    rw [wr64 (by ((try simp only [nc] at *); (try simp only [Int.ofNat_eq_natCast] at *); omega)) (by ((try simp only [nc] at *); (try simp only [Int.ofNat_eq_natCast] at *); omega))]
    have e1 : v.toNat = n := by ((try simp only [nc] at *); (try simp only [Int.ofNat_eq_natCast] at *); omega)
    have e2 : (v + 1).toNat = n + 1 := by ((try simp only [nc] at *); (try simp only [Int.ofNat_eq_natCast] at *); omega)
    refine ⟨sl, hes, rfl, by ((try simp only [nc] at *); (try simp only [Int.ofNat_eq_natCast] at *); omega), by ((try simp only [nc] at *); (try simp only [Int.ofNat_eq_natCast] at *); omega), by ((try simp only [nc] at *); (try simp only [Int.ofNat_eq_natCast] at *); omega), ?_, rfl⟩
    have hx : sl[n]? = some sl[n] := by simp [hn1]
    rw [e1, e2, take_succ_eq hx, freeL_snoc, hn2, if_pos rfl, List.append_nil, freeL_all]
    intro x hx
    obtain ⟨i, hi⟩ := List.getElem?_of_mem hx
    rw [List.getElem?_take] at hi
    split at hi
    · rename_i hin
      have := hn3 i hin
      obtain ⟨hil, he⟩ := List.getElem?_eq_some_iff.1 hi
      rw [he] at this
      simpa using this
    · cases hi
  · (cbv; repeat (refine ⟨rfl, ?_⟩; cbv))
  obtain ⟨i, j, es'⟩ := k
  obtain ⟨ml, hml, hmlen, hi0, hij, hjl, hmt, hmd⟩ := hk
  dsimp only at hml hi0 hij hjl hmt hmd
  have la' : es'.length = sl.length := by rw [hml, List.length_map, hmlen]
  cbv
  refine brk (fun h1 => ?_) (fun h1 => ?_)
  · simp only [x_lt, x_len, la', decide_eq_true_eq] at h1
    cbv
    refine ⟨by ((try simp only [nc] at *); (try simp only [Int.ofNat_eq_natCast] at *); omega), by rw [la']; exact h1, ?_⟩
    cbv
    refine .map hml (by simp only [x_nat]; ((try simp only [nc] at *); (try simp only [Int.ofNat_eq_natCast] at *); omega)) fun x hx => ?_
    simp only [x_nat] at hx
    have hx2 : sl[j.toNat]? = some x := by
      have : (ml.drop j.toNat)[0]? = some x := by rw [List.getElem?_drop]; simpa using hx
      rw [hmd, List.getElem?_drop] at this; simpa using this
    have hfs := freeL_snoc t (sl.take j.toNat) x
    rw [← take_succ_eq hx2] at hfs
    obtain ⟨x, xi⟩ := x
    cbv
    refine .f1 (free1R hP het x _ (Int.natCast_nonneg xi)) rfl rfl ?_
    generalize hw : takenL t xi = w
    simp only [hw] at hfs
    cbv
    refine brk (fun h2 => ?_) (fun h2 => ?_)
    · simp only [x_not, Bool.not_eq_true'] at h2
      simp only [h2, Bool.false_eq_true, if_false] at hfs
      cbv
      refine ⟨by ((try simp only [nc] at *); (try simp only [Int.ofNat_eq_natCast] at *); omega), by rw [la']; ((try simp only [nc] at *); (try simp only [Int.ofNat_eq_natCast] at *); omega), ?_⟩
      cbv
      refine .map hml (by simp only [x_nat]; ((try simp only [nc] at *); (try simp only [Int.ofNat_eq_natCast] at *); omega)) fun y hy => ?_
      obtain ⟨y, yi⟩ := y
      cbv
      refine hKn _ _ (.mtn [0] ?_) ?_ ?_
      · (cbv; repeat (refine ⟨rfl, ?_⟩; cbv))
      · simp only [iAt, geti, rAt, getr, x_add, x_set, x_nat]
        rw [wr64 (by ((try simp only [nc] at *); (try simp only [Int.ofNat_eq_natCast] at *); omega)) (by ((try simp only [nc] at *); (try simp only [Int.ofNat_eq_natCast] at *); omega)), wr64 (by ((try simp only [nc] at *); (try simp only [Int.ofNat_eq_natCast] at *); omega)) (by ((try simp only [nc] at *); (try simp only [Int.ofNat_eq_natCast] at *); omega)), toNat_succ (by ((try simp only [nc] at *); (try simp only [Int.ofNat_eq_natCast] at *); omega)), toNat_succ (by ((try simp only [nc] at *); (try simp only [Int.ofNat_eq_natCast] at *); omega))]
        refine ⟨ml.set i.toNat (x, xi), ?_, by rw [List.length_set]; exact hmlen, by ((try simp only [nc] at *); (try simp only [Int.ofNat_eq_natCast] at *); omega), by ((try simp only [nc] at *); (try simp only [Int.ofNat_eq_natCast] at *); omega), by ((try simp only [nc] at *); (try simp only [Int.ofNat_eq_natCast] at *); omega), ?_, ?_⟩
        · rw [hml, List.map_set]; rfl
        · rw [hfs, ← hmt]
          have hlt : i.toNat < ml.length := by ((try simp only [nc] at *); (try simp only [Int.ofNat_eq_natCast] at *); omega)
          have hg : (ml.set i.toNat (x, xi))[i.toNat]? = some (x, xi) := by simp [hlt]
          rw [take_succ_eq hg, List.take_set_of_le (Nat.le_refl _)]
        · rw [List.drop_set_of_lt (by ((try simp only [nc] at *); (try simp only [Int.ofNat_eq_natCast] at *); omega))]
          rw [← List.drop_drop, hmd, List.drop_drop]
      · simp only [iAt, geti, x_add]
        rw [wr64 (by ((try simp only [nc] at *); (try simp only [Int.ofNat_eq_natCast] at *); omega)) (by ((try simp only [nc] at *); (try simp only [Int.ofNat_eq_natCast] at *); omega))]
        ((try simp only [nc] at *); (try simp only [Int.ofNat_eq_natCast] at *); omega)
    · simp only [x_not, Bool.not_eq_false'] at h2
      simp only [h2, if_true, List.append_nil] at hfs
      cbv
      refine hKn _ _ (.mtn [0] ?_) ?_ ?_
      · (cbv; repeat (refine ⟨rfl, ?_⟩; cbv))
      · simp only [iAt, geti, rAt, getr, x_add]
        rw [wr64 (by ((try simp only [nc] at *); (try simp only [Int.ofNat_eq_natCast] at *); omega)) (by ((try simp only [nc] at *); (try simp only [Int.ofNat_eq_natCast] at *); omega)), toNat_succ (by ((try simp only [nc] at *); (try simp only [Int.ofNat_eq_natCast] at *); omega))]
        refine ⟨ml, hml, hmlen, by ((try simp only [nc] at *); (try simp only [Int.ofNat_eq_natCast] at *); omega), by ((try simp only [nc] at *); (try simp only [Int.ofNat_eq_natCast] at *); omega), by ((try simp only [nc] at *); (try simp only [Int.ofNat_eq_natCast] at *); omega), by rw [hfs, ← hmt], ?_⟩
        rw [← List.drop_drop, hmd, List.drop_drop]
      · simp only [iAt, geti, x_add]
        rw [wr64 (by ((try simp only [nc] at *); (try simp only [Int.ofNat_eq_natCast] at *); omega)) (by ((try simp only [nc] at *); (try simp only [Int.ofNat_eq_natCast] at *); omega))]
        ((try simp only [nc] at *); (try simp only [Int.ofNat_eq_natCast] at *); omega)
  · simp only [x_lt, x_len, la', decide_eq_false_iff_not] at h1
    have hil : i.toNat ≤ es'.length := by ((try simp only [nc] at *); (try simp only [Int.ofNat_eq_natCast] at *); omega)
    cbv
    refine .own ?_
    cbv
    refine ⟨hi0, by rw [la']; ((try simp only [nc] at *); (try simp only [Int.ofNat_eq_natCast] at *); omega), ?_⟩
    cbv
    refine ⟨by simp only [x_nat]; exact hil, ?_⟩
    cbv
    refine .own ?_
    cbv
    refine ⟨hi0, ?_, ?_⟩
    · simp only [x_clr, x_nat, List.length_append, List.length_take, List.length_replicate]
      ((try simp only [nc] at *); (try simp only [Int.ofNat_eq_natCast] at *); omega)
    cbv
    refine hK _ _ (slE ?_)
    simp only [x_take, x_clr, x_nat]
    rw [List.take_append_of_le_length (by rw [List.length_take]; omega), List.take_take, Nat.min_self, hml, ← List.map_take, hmt, List.take_of_length_le (by ((try simp only [nc] at *); (try simp only [Int.ofNat_eq_natCast] at *); omega))]
end Go.SX.Runs
/-
  Runs: how a list is divided.
-/
namespace Go.SX.Runs
open Go Go.Proofs
def follB (b a : Place × Nat) : Bool := decide (orderP b.1 a.1.next = 0)
def cutAt (fl : List (Place × Nat)) (i : Nat) : Bool := match fl[i + 1]?, fl[i]? with | some b, some a => !follB b a | _, _ => true
def divStep (fl : List (Place × Nat)) (st : List (List (Place × Nat)) × Nat) (i : Nat) : List (List (Place × Nat)) × Nat :=
  if cutAt fl i then (st.1 ++ [(fl.take (i + 1)).drop st.2], i + 1) else st
def divTo (fl : List (Place × Nat)) (k : Nat) : List (List (Place × Nat)) × Nat := (List.range k).foldl (divStep fl) ([], 0)
def divideL (fl : List (Place × Nat)) : List (List (Place × Nat)) := (divTo fl fl.length).1
theorem divTo_succ (fl : List (Place × Nat)) (k : Nat) : divTo fl (k + 1) = divStep fl (divTo fl k) k := by
  rw [divTo, List.range_succ, List.foldl_append]; rfl
theorem divTo_le (fl : List (Place × Nat)) (k : Nat) : (divTo fl k).2 ≤ k ∧ (divTo fl k).1.length ≤ k := by
  induction k with
  | zero => exact ⟨Nat.le_refl _, Nat.le_refl _⟩
  | succ k ih =>
    rw [divTo_succ, divStep]
    split
    · simp only [List.length_append, List.length_cons, List.length_nil]; omega
    · omega
def runD (x : List (Place × Nat)) : List D := [.sl (x.map seatD)]
variable {P : Program} (hP : P = Try.prog)
include hP
theorem divideR {fl : List (Place × Nat)} {es : List (List D)} (hes : es = fl.map seatD) (hl : fl.length ≤ 1000000000) :
    Fn1 P 33 [.d (.sl es), .clo (.func 34) [] []] (.d (.sl ((divideL fl).map runD))) := by
  refine .walkD (hP ▸ d33_ok) fun K hK => ?_
  have la : es.length = fl.length := by simp [hes]
  cbv
  refine .intro (ι := List (List D) × Int × Int × Int) (fun k => [.d (.sl es), .clo (.func 34) [] [], .top, .top, .top, .hd 0, .i k.2.1, .top, .top, .i k.2.2.1, .i k.2.2.2] ++ List.replicate 33 .top) (fun k => [.row 47 1 k.1]) (fun env own => (rAt own (hAt env 5), iAt env 6, iAt env 9, iAt env 10))
    (fun k => k.2.2.1 = fl.length ∧ 0 ≤ k.2.2.2 ∧ k.2.2.2 ≤ fl.length ∧ 0 ≤ k.2.1 ∧ k.1 = (divTo fl k.2.2.2.toNat).1.map runD ∧ k.2.1 = (divTo fl k.2.2.2.toNat).2) (fun k => fl.length - k.2.2.2.toNat)
    ([], 0, (Classical.choice ioEx).1.len es, 0) ?_ (.nilrow 5 47 1 rfl (.mt [0] ?_)) fun k hk Kn hKn => ?_
  · exact ⟨by simp only [x_len, la], Int.le_refl _, Int.natCast_nonneg _, Int.le_refl _, rfl, rfl⟩
  · (cbv; repeat (refine ⟨rfl, ?_⟩; cbv))
  obtain ⟨eo, from', n, k⟩ := k
  obtain ⟨hn, hk0, hk1, hf0, ho, hf⟩ := hk
  dsimp only at hn hk0 hk1 hf0 ho hf
  obtain ⟨hd1, hd2⟩ := divTo_le fl k.toNat
  have hds := divTo_succ fl k.toNat
  generalize hdt : divTo fl k.toNat = dt at ho hf hd1 hd2 hds
  obtain ⟨o, f⟩ := dt
  dsimp only at ho hf hd1 hd2
  cbv
  refine brk (fun h => ?_) (fun h => ?_)
  · simp only [x_lt, hn, decide_eq_true_eq] at h
    have hw : IntKind.i64.wrap (k + 1) = k + 1 := wr64 (by ((try simp only [nc] at *); (try simp only [Int.ofNat_eq_natCast] at *); omega)) (by ((try simp only [nc] at *); (try simp only [Int.ofNat_eq_natCast] at *); omega))
    obtain ⟨x, hx⟩ : ∃ x, fl[k.toNat]? = some x := ⟨fl[k.toNat]'(by ((try simp only [nc] at *); (try simp only [Int.ofNat_eq_natCast] at *); omega)), by simp⟩
    have hel : eo.length ≤ 1000000000 := by rw [ho, List.length_map]; ((try simp only [nc] at *); (try simp only [Int.ofNat_eq_natCast] at *); omega)
    have h10 : ∀ ds ∈ es, ds.length = 10 := fun ds hm => by
      rw [hes] at hm
      obtain ⟨z, _, rfl⟩ := List.mem_map.1 hm
      rfl
    cbv
    refine brk (fun h1 => ?_) (fun h1 => ?_)
    · simp only [x_eq, x_add, x_len, hw, la, decide_eq_true_eq] at h1
      have hc : cutAt fl k.toNat = true := by
        rw [cutAt, List.getElem?_eq_none (by ((try simp only [nc] at *); (try simp only [Int.ofNat_eq_natCast] at *); omega))]
      rw [divStep, if_pos hc] at hds
      cbv
      refine ⟨hf0, by simp only [x_add, hw]; ((try simp only [nc] at *); (try simp only [Int.ofNat_eq_natCast] at *); omega), by simp only [x_add, hw]; ((try simp only [nc] at *); (try simp only [Int.ofNat_eq_natCast] at *); omega), h10, ?_⟩
      cbv
      refine .one rfl hel (by decide) ?_
      cbv
      refine hKn _ _ (.mt [2] ?_) ?_ ?_
      · (cbv; repeat (refine ⟨rfl, ?_⟩; cbv))
      · simp only [iAt, geti, hAt, rAt, getr, x_add, hw, x_app, x_sub]
        rw [toNat_succ hk0, hds]
        refine ⟨hn, by ((try simp only [nc] at *); (try simp only [Int.ofNat_eq_natCast] at *); omega), by ((try simp only [nc] at *); (try simp only [Int.ofNat_eq_natCast] at *); omega), by ((try simp only [nc] at *); (try simp only [Int.ofNat_eq_natCast] at *); omega), ?_, by ((try simp only [nc] at *); (try simp only [Int.ofNat_eq_natCast] at *); omega)⟩
        dsimp only
        rw [List.map_append, ho]
        congr 1
        simp only [List.map_cons, List.map_nil, runD, hes, List.map_take, List.map_drop, hf, Int.toNat_natCast]
      · simp only [iAt, geti, x_add, hw]
        ((try simp only [nc] at *); (try simp only [Int.ofNat_eq_natCast] at *); omega)
    · simp only [x_eq, x_add, x_len, hw, la, decide_eq_false_iff_not] at h1
      obtain ⟨y, hy⟩ : ∃ y, fl[k.toNat + 1]? = some y := ⟨fl[k.toNat + 1]'(by ((try simp only [nc] at *); (try simp only [Int.ofNat_eq_natCast] at *); omega)), by simp⟩
      have hc : cutAt fl k.toNat = !follB y x := by rw [cutAt, hy, hx]
      cbv
      refine .map hes (by simp only [x_add, hw]; ((try simp only [nc] at *); (try simp only [Int.ofNat_eq_natCast] at *); omega)) (by simp only [x_add, hw]; ((try simp only [nc] at *); (try simp only [Int.ofNat_eq_natCast] at *); omega)) (fun _ => rfl) fun y' hy' => ?_
      simp only [x_add, hw] at hy'
      rw [toNat_succ hk0, hy] at hy'
      obtain rfl : y = y' := by cases hy'; rfl
      obtain ⟨y, yi⟩ := y
      cbv
      refine .map hes hk0 (by ((try simp only [nc] at *); (try simp only [Int.ofNat_eq_natCast] at *); omega)) (fun _ => rfl) fun x' hx' => ?_
      rw [hx] at hx'
      obtain rfl : x = x' := by cases hx'; rfl
      obtain ⟨x, xi⟩ := x
      cbv
      refine .f1 (followsR hP y x _ _) rfl rfl ?_
      generalize hv : decide (orderP y x.next = 0) = v
      rw [show follB (y, yi) (x, xi) = v from hv] at hc
      cbv
      refine brk (fun h2 => ?_) (fun h2 => ?_)
      · simp only [x_not] at h2
        rw [divStep, if_pos (hc.trans h2)] at hds
        cbv
        refine ⟨hf0, by simp only [x_add, hw]; ((try simp only [nc] at *); (try simp only [Int.ofNat_eq_natCast] at *); omega), by simp only [x_add, hw]; ((try simp only [nc] at *); (try simp only [Int.ofNat_eq_natCast] at *); omega), h10, ?_⟩
        cbv
        refine .one rfl hel (by decide) ?_
        cbv
        refine hKn _ _ (.mt [2] ?_) ?_ ?_
        · (cbv; repeat (refine ⟨rfl, ?_⟩; cbv))
        · simp only [iAt, geti, hAt, rAt, getr, x_add, hw, x_app, x_sub]
          rw [toNat_succ hk0, hds]
          refine ⟨hn, by ((try simp only [nc] at *); (try simp only [Int.ofNat_eq_natCast] at *); omega), by ((try simp only [nc] at *); (try simp only [Int.ofNat_eq_natCast] at *); omega), by ((try simp only [nc] at *); (try simp only [Int.ofNat_eq_natCast] at *); omega), ?_, by ((try simp only [nc] at *); (try simp only [Int.ofNat_eq_natCast] at *); omega)⟩
          dsimp only
          rw [List.map_append, ho]
          congr 1
          simp only [List.map_cons, List.map_nil, runD, hes, List.map_take, List.map_drop, hf, Int.toNat_natCast]
        · simp only [iAt, geti, x_add, hw]
          ((try simp only [nc] at *); (try simp only [Int.ofNat_eq_natCast] at *); omega)
      · simp only [x_not] at h2
        rw [divStep, if_neg (by rw [hc, h2]; simp)] at hds
        cbv
        refine hKn _ _ (.mt [0] ?_) ?_ ?_
        · (cbv; repeat (refine ⟨rfl, ?_⟩; cbv))
        · simp only [iAt, geti, hAt, rAt, getr, x_add, hw]
          rw [toNat_succ hk0, hds]
          exact ⟨hn, by ((try simp only [nc] at *); (try simp only [Int.ofNat_eq_natCast] at *); omega), by ((try simp only [nc] at *); (try simp only [Int.ofNat_eq_natCast] at *); omega), hf0, ho, hf⟩
        · simp only [iAt, geti, x_add, hw]
          ((try simp only [nc] at *); (try simp only [Int.ofNat_eq_natCast] at *); omega)
  · simp only [x_lt, hn, decide_eq_false_iff_not] at h
    cbv
    refine hK _ _ (slE ?_)
    have : k.toNat = fl.length := by ((try simp only [nc] at *); (try simp only [Int.ofNat_eq_natCast] at *); omega)
    rw [divideL, ← this, hdt]; exact ho
end Go.SX.Runs
