/-
  Runs: the small functions.
-/
import Derived.Test.YtlahdopmiplnoaaYSxS
import Derived.Test.YtlahdopmiplnoaaYCode
set_option linter.unusedSimpArgs false
set_option linter.unusedVariables false
set_option linter.unusedSectionVars false
namespace Go.SX.Runs
open Go Go.Proofs

structure Place where
  (kind level block row seat x y view wit : Int)
@[reducible] def dv (n : Int) : D := .val (.int .i64 n)
def Place.ds (p : Place) : List D := [dv p.kind, dv p.level, dv p.block, dv p.row, dv p.seat, dv p.x, dv p.y, dv p.view, dv p.wit]
@[reducible] def Place.sv (p : Place) : SV := .agg [.i p.kind, .i p.level, .i p.block, .i p.row, .i p.seat, .i p.x, .i p.y, .i p.view, .i p.wit]
@[reducible] def Place.at (p : Place) (i : Int) : SV := .agg [.i p.kind, .i p.level, .i p.block, .i p.row, .i p.seat, .i p.x, .i p.y, .i p.view, .i p.wit, .i i]
variable {P : Program} (hP : P = Try.prog)
include hP
theorem isNaN (x : Int) : Fn1 P 53 [.i x] (.b false) := by
  refine .walk (hP ▸ d53_ok) fun K hK => ?_
  cbv
  refine hK _ _ ?_
  simp only [x_not, x_eq, decide_true, Bool.not_true]

def cmpI (x y : Int) : Int := if x < y then -1 else if y < x then 1 else 0
theorem compare (x y : Int) : Fn1 P 49 [.i x, .i y] (.i (cmpI x y)) := by
  refine .walk (hP ▸ d49_ok) fun K hK => ?_
  cbv
  refine .f1 (isNaN hP _) rfl rfl ?_
  cbv
  refine .f1 (isNaN hP _) rfl rfl ?_
  cbv
  refine brk (fun h => ?_) (fun h => ?_)
  · cbv
    refine hK _ _ ?_
    simp only [x_lt, decide_eq_true_eq] at h
    simp only [cmpI, h, if_true]
  cbv
  refine brk (fun k => ?_) (fun k => ?_)
  · cbv
    refine hK _ _ ?_
    simp only [x_lt, decide_eq_true_eq, decide_eq_false_iff_not] at h k
    simp only [cmpI, h, k, if_true, if_false]
  · cbv
    refine hK _ _ ?_
    simp only [x_lt, decide_eq_true_eq, decide_eq_false_iff_not] at h k
    simp only [cmpI, h, k, if_false]

theorem seatR (p : Place) : Fn1 P 24 [p.sv] (.b (decide (0 ≤ p.row))) := by
  obtain ⟨kind, level, block, row, seat, x, y, view, wit⟩ := p
  refine .walk (hP ▸ d24_ok) fun K hK => ?_
  cbv
  refine hK _ _ ?_
  simp only [x_le]

def nextP (a b : Place) : Bool := decide (0 ≤ a.row) && (decide (a.level = b.level) && (decide (a.block = b.block) && (decide (a.row = b.row) && (decide (a.seat < b.seat) && decide (b.seat = IntKind.i64.wrap (a.seat + 1))))))
theorem nextR (p q : Place) : Fn1 P 23 [p.sv, q.sv] (.b (nextP p q)) := by
  obtain ⟨kind, level, block, row, seat, x, y, view, wit⟩ := p
  obtain ⟨kind', level', block', row', seat', x', y', view', wit'⟩ := q
  refine .walk (hP ▸ d23_ok) fun K hK => ?_
  cbv
  repeat' (refine brk (fun _ => ?_) (fun _ => ?_) <;> cbv)
  all_goals
    refine hK _ _ ?_
    simp_all only [x_le, x_eq, x_lt, x_add, nextP, decide_true, decide_false, Bool.true_and, Bool.false_and, decide_eq_true_eq, decide_eq_false_iff_not]
end Go.SX.Runs
/-
  Runs: the loops.
-/
namespace Go.SX.Runs
open Go Go.Proofs
theorem take_succ_eq {α : Type} {a : List α} {k : Nat} {x : α} (h : a[k]? = some x) : a.take (k + 1) = a.take k ++ [x] := by
  rw [List.take_add_one, h]; rfl
theorem toNat_succ {k : Int} (h : 0 ≤ k) : (k + 1).toNat = k.toNat + 1 := by omega
variable {P : Program} (hP : P = Try.prog)
include hP
theorem intsR {a b : List Int} {ea eb : List (List D)} (hea : ea = a.map dI) (heb : eb = b.map dI) (ha : a.length ≤ 1000000000) : Fn1 P 19 [.d (.sl ea), .d (.sl eb)] (.b (decide (a = b))) := by
  refine .walk (hP ▸ d19_ok) fun K hK => ?_
  have la : (ea.length : Int) = a.length := by simp [hea]
  have lb : (eb.length : Int) = b.length := by simp [heb]
  cbv
  refine brk (fun h => ?_) (fun h => ?_)
  · cbv
    refine hK _ _ (biE ?_)
    simp only [x_not, x_eq, x_len, la, lb, Bool.not_eq_true', decide_eq_false_iff_not] at h
    exact (decide_eq_false fun e => h (by rw [e])).symm
  simp only [x_not, x_eq, x_len, la, lb, Bool.not_eq_false', decide_eq_true_eq] at h
  cbv
  refine .intro (ι := Int) (fun k => [.d (.sl ea), .d (.sl eb), .top, .top, .top, .i k] ++ List.replicate 20 .top) (fun _ => []) (fun env _ => iAt env 5)
    (fun k => 0 ≤ k ∧ k ≤ a.length ∧ a.take k.toNat = b.take k.toNat) (fun k => a.length - k.toNat) 0 ?_ (.mt [] ?_) fun k hk Kn hKn => ?_
  · simp
  · (cbv; repeat (refine ⟨rfl, ?_⟩; cbv))
  obtain ⟨hk0, hk1, hk2⟩ := hk
  cbv
  refine brk (fun h => ?_) (fun h => ?_)
  · simp only [x_lt, x_len, la, decide_eq_true_eq] at h
    cbv
    refine .map hea hk0 (by ((try simp only [nc] at *); (try simp only [Int.ofNat_eq_natCast] at *); omega)) (fun _ => rfl) fun x hx => ?_
    cbv
    refine .map heb hk0 (by ((try simp only [nc] at *); (try simp only [Int.ofNat_eq_natCast] at *); omega)) (fun _ => rfl) fun y hy => ?_
    cbv
    refine brk (fun h1 => ?_) (fun h1 => ?_)
    · simp only [x_not, x_eq, Bool.not_eq_true', decide_eq_false_iff_not] at h1
      cbv
      refine hK _ _ (biE (decide_eq_false fun e => ?_).symm)
      subst e
      rw [hx] at hy; cases hy; exact h1 rfl
    · simp only [x_not, x_eq, Bool.not_eq_false', decide_eq_true_eq] at h1
      subst h1
      cbv
      refine hKn _ _ (.mt [] ?_) ?_ ?_
      · (cbv; repeat (refine ⟨rfl, ?_⟩; cbv))
      · simp only [iAt, geti, x_add]
        rw [wr64 (by ((try simp only [nc] at *); (try simp only [Int.ofNat_eq_natCast] at *); omega)) (by ((try simp only [nc] at *); (try simp only [Int.ofNat_eq_natCast] at *); omega)), toNat_succ hk0, take_succ_eq hx, take_succ_eq hy, hk2]
        exact ⟨by ((try simp only [nc] at *); (try simp only [Int.ofNat_eq_natCast] at *); omega), by ((try simp only [nc] at *); (try simp only [Int.ofNat_eq_natCast] at *); omega), rfl⟩
      · simp only [iAt, geti, x_add]
        rw [wr64 (by ((try simp only [nc] at *); (try simp only [Int.ofNat_eq_natCast] at *); omega)) (by ((try simp only [nc] at *); (try simp only [Int.ofNat_eq_natCast] at *); omega))]
        ((try simp only [nc] at *); (try simp only [Int.ofNat_eq_natCast] at *); omega)
  · simp only [x_lt, x_len, la, decide_eq_false_iff_not] at h
    cbv
    refine hK _ _ (biE (decide_eq_true ?_).symm)
    rwa [List.take_of_length_le (by ((try simp only [nc] at *); (try simp only [Int.ofNat_eq_natCast] at *); omega)), List.take_of_length_le (by ((try simp only [nc] at *); (try simp only [Int.ofNat_eq_natCast] at *); omega))] at hk2

theorem listsR {a b : List (List Int)} {ea eb : List (List D)} (hea : ea = a.map dL) (heb : eb = b.map dL) (ha : a.length ≤ 1000000000) (ha' : ∀ x ∈ a, x.length ≤ 1000000000) : Fn1 P 12 [.d (.sl ea), .d (.sl eb)] (.b (decide (a = b))) := by
  refine .walk (hP ▸ d12_ok) fun K hK => ?_
  have la : (ea.length : Int) = a.length := by simp [hea]
  have lb : (eb.length : Int) = b.length := by simp [heb]
  cbv
  refine brk (fun h => ?_) (fun h => ?_)
  · cbv
    refine hK _ _ (biE ?_)
    simp only [x_not, x_eq, x_len, la, lb, Bool.not_eq_true', decide_eq_false_iff_not] at h
    exact (decide_eq_false fun e => h (by rw [e])).symm
  simp only [x_not, x_eq, x_len, la, lb, Bool.not_eq_false', decide_eq_true_eq] at h
  cbv
  refine .intro (ι := Int) (fun k => [.d (.sl ea), .d (.sl eb), .top, .top, .top, .i k] ++ List.replicate 21 .top) (fun _ => []) (fun env _ => iAt env 5)
    (fun k => 0 ≤ k ∧ k ≤ a.length ∧ a.take k.toNat = b.take k.toNat) (fun k => a.length - k.toNat) 0 ?_ (.mt [] ?_) fun k hk Kn hKn => ?_
  · simp
  · (cbv; repeat (refine ⟨rfl, ?_⟩; cbv))
  obtain ⟨hk0, hk1, hk2⟩ := hk
  cbv
  refine brk (fun h => ?_) (fun h => ?_)
  · simp only [x_lt, x_len, la, decide_eq_true_eq] at h
    cbv
    refine .lists hea hk0 (by ((try simp only [nc] at *); (try simp only [Int.ofNat_eq_natCast] at *); omega)) fun x ex hx hex => ?_
    cbv
    refine .lists heb hk0 (by ((try simp only [nc] at *); (try simp only [Int.ofNat_eq_natCast] at *); omega)) fun y ey hy hey => ?_
    cbv
    refine .f1 (intsR hP hex hey (ha' x (List.mem_of_getElem? hx))) rfl rfl ?_
    generalize hv : decide (x = y) = v
    cbv
    refine brk (fun h1 => ?_) (fun h1 => ?_)
    · simp only [x_not, Bool.not_eq_true', ← hv, decide_eq_false_iff_not] at h1
      cbv
      refine hK _ _ (biE (decide_eq_false fun e => ?_).symm)
      subst e
      rw [hx] at hy; cases hy; exact h1 rfl
    · simp only [x_not, Bool.not_eq_false', ← hv, decide_eq_true_eq] at h1
      subst h1
      cbv
      refine hKn _ _ (.mt [] ?_) ?_ ?_
      · (cbv; repeat (refine ⟨rfl, ?_⟩; cbv))
      · simp only [iAt, geti, x_add]
        rw [wr64 (by ((try simp only [nc] at *); (try simp only [Int.ofNat_eq_natCast] at *); omega)) (by ((try simp only [nc] at *); (try simp only [Int.ofNat_eq_natCast] at *); omega)), toNat_succ hk0, take_succ_eq hx, take_succ_eq hy, hk2]
        exact ⟨by ((try simp only [nc] at *); (try simp only [Int.ofNat_eq_natCast] at *); omega), by ((try simp only [nc] at *); (try simp only [Int.ofNat_eq_natCast] at *); omega), rfl⟩
      · simp only [iAt, geti, x_add]
        rw [wr64 (by ((try simp only [nc] at *); (try simp only [Int.ofNat_eq_natCast] at *); omega)) (by ((try simp only [nc] at *); (try simp only [Int.ofNat_eq_natCast] at *); omega))]
        ((try simp only [nc] at *); (try simp only [Int.ofNat_eq_natCast] at *); omega)
  · simp only [x_lt, x_len, la, decide_eq_false_iff_not] at h
    cbv
    refine hK _ _ (biE (decide_eq_true ?_).symm)
    rwa [List.take_of_length_le (by ((try simp only [nc] at *); (try simp only [Int.ofNat_eq_natCast] at *); omega)), List.take_of_length_le (by ((try simp only [nc] at *); (try simp only [Int.ofNat_eq_natCast] at *); omega))] at hk2

theorem inR {a : List Int} {ea : List (List D)} (n : Int) (hea : ea = a.map dI) (ha : a.length ≤ 1000000000) : Fn1 P 27 [.d (.sl ea), .i n] (.b (decide (n ∈ a))) := by
  refine .walk (hP ▸ d27_ok) fun K hK => ?_
  have la : (ea.length : Int) = a.length := by simp [hea]
  cbv
  refine .intro (ι := Int) (fun k => [.d (.sl ea), .i n, .top, .top, .top, .i k] ++ List.replicate 12 .top) (fun _ => []) (fun env _ => iAt env 5)
    (fun k => 0 ≤ k ∧ k ≤ a.length ∧ n ∉ a.take k.toNat) (fun k => a.length - k.toNat) 0 ?_ (.mt [] ?_) fun k hk Kn hKn => ?_
  · simp
  · (cbv; repeat (refine ⟨rfl, ?_⟩; cbv))
  obtain ⟨hk0, hk1, hk2⟩ := hk
  cbv
  refine brk (fun h => ?_) (fun h => ?_)
  · simp only [x_lt, x_len, la, decide_eq_true_eq] at h
    cbv
    refine .map hea hk0 (by ((try simp only [nc] at *); (try simp only [Int.ofNat_eq_natCast] at *); omega)) (fun _ => rfl) fun x hx => ?_
    cbv
    refine brk (fun h1 => ?_) (fun h1 => ?_)
    · simp only [x_eq, decide_eq_true_eq] at h1
      cbv
      refine hK _ _ (biE (decide_eq_true ?_).symm)
      exact h1 ▸ List.mem_of_getElem? hx
    · simp only [x_eq, decide_eq_false_iff_not] at h1
      cbv
      refine hKn _ _ (.mt [] ?_) ?_ ?_
      · (cbv; repeat (refine ⟨rfl, ?_⟩; cbv))
      · simp only [iAt, geti, x_add]
        rw [wr64 (by ((try simp only [nc] at *); (try simp only [Int.ofNat_eq_natCast] at *); omega)) (by ((try simp only [nc] at *); (try simp only [Int.ofNat_eq_natCast] at *); omega)), toNat_succ hk0, take_succ_eq hx]
        exact ⟨by ((try simp only [nc] at *); (try simp only [Int.ofNat_eq_natCast] at *); omega), by ((try simp only [nc] at *); (try simp only [Int.ofNat_eq_natCast] at *); omega), by simp only [List.mem_append, List.mem_singleton, hk2, false_or]; exact fun e => h1 e.symm⟩
      · simp only [iAt, geti, x_add]
        rw [wr64 (by ((try simp only [nc] at *); (try simp only [Int.ofNat_eq_natCast] at *); omega)) (by ((try simp only [nc] at *); (try simp only [Int.ofNat_eq_natCast] at *); omega))]
        ((try simp only [nc] at *); (try simp only [Int.ofNat_eq_natCast] at *); omega)
  · simp only [x_lt, x_len, la, decide_eq_false_iff_not] at h
    cbv
    refine hK _ _ (biE (decide_eq_false ?_).symm)
    rwa [List.take_of_length_le (by ((try simp only [nc] at *); (try simp only [Int.ofNat_eq_natCast] at *); omega))] at hk2

def takenL (l : List Bool) (i : Int) : Bool := decide (0 ≤ i) && l.getD i.toNat false
omit hP in
theorem getD_of {l : List Bool} {i : Nat} {x : Bool} (h : l[i]? = some x) : l.getD i false = x := by simp [h]
theorem takenR {l : List Bool} {el : List (List D)} (i : Int) (hel : el = l.map dB) : Fn1 P 25 [.d (.sl el), .i i] (.b (takenL l i)) := by
  refine .walk (hP ▸ d25_ok) fun K hK => ?_
  have la : (el.length : Int) = l.length := by simp [hel]
  cbv
  refine brk (fun h => ?_) (fun h => ?_)
  · simp only [x_le, decide_eq_true_eq] at h
    cbv
    refine brk (fun h1 => ?_) (fun h1 => ?_)
    · simp only [x_lt, x_len, la, decide_eq_true_eq] at h1
      cbv
      refine .map hel h (by ((try simp only [nc] at *); (try simp only [Int.ofNat_eq_natCast] at *); omega)) (fun _ => rfl) fun x hx => ?_
      cbv
      refine hK _ _ (biE ?_)
      simp only [takenL, h, decide_true, Bool.true_and, getD_of hx]
    · simp only [x_lt, x_len, la, decide_eq_false_iff_not] at h1
      cbv
      refine hK _ _ (biE ?_)
      rw [takenL, List.getD_eq_getElem?_getD, List.getElem?_eq_none (by ((try simp only [nc] at *); (try simp only [Int.ofNat_eq_natCast] at *); omega))]
      simp
  · simp only [x_le, decide_eq_false_iff_not] at h
    cbv
    refine hK _ _ (biE ?_)
    simp [takenL, h]
theorem isR {l : List Bool} {el : List (List D)} (i : Int) (hel : el = l.map dB) (hi : 0 ≤ i) : Fn1 P 32 [.d (.sl el), .i i] (.b (takenL l i)) := by
  refine .walk (hP ▸ d32_ok) fun K hK => ?_
  have la : (el.length : Int) = l.length := by simp [hel]
  cbv
  refine brk (fun h1 => ?_) (fun h1 => ?_)
  · simp only [x_lt, x_len, la, decide_eq_true_eq] at h1
    cbv
    refine .map hel hi (by ((try simp only [nc] at *); (try simp only [Int.ofNat_eq_natCast] at *); omega)) (fun _ => rfl) fun x hx => ?_
    cbv
    refine hK _ _ (biE ?_)
    simp only [takenL, hi, decide_true, Bool.true_and, getD_of hx]
  · simp only [x_lt, x_len, la, decide_eq_false_iff_not] at h1
    cbv
    refine hK _ _ (biE ?_)
    rw [takenL, List.getD_eq_getElem?_getD, List.getElem?_eq_none (by ((try simp only [nc] at *); (try simp only [Int.ofNat_eq_natCast] at *); omega))]
    simp
end Go.SX.Runs
/-
  Runs: the order of seats.
-/
namespace Go.SX.Runs
open Go Go.Proofs
variable {P : Program} (hP : P = Try.prog)
include hP
def beforeP (a b : Place) : Bool :=
  if a.level ≠ b.level then decide (a.level < b.level) else
  if a.block ≠ b.block then decide (a.block < b.block) else
  if a.row ≠ b.row then decide (a.row < b.row) else decide (a.seat < b.seat)
theorem beforeR (p q : Place) : Fn1 P 41 [p.sv, q.sv] (.b (beforeP p q)) := by
  obtain ⟨kind, level, block, row, seat, x, y, view, wit⟩ := p
  obtain ⟨kind', level', block', row', seat', x', y', view', wit'⟩ := q
  refine .walk (hP ▸ d41_ok) fun K hK => ?_
  cbv
  repeat' (refine brk (fun _ => ?_) (fun _ => ?_) <;> cbv)
  all_goals
    refine hK _ _ ?_
    simp_all only [x_not, x_eq, x_lt, beforeP, decide_eq_true_eq, decide_eq_false_iff_not, Bool.not_eq_true', Bool.not_eq_false', ne_eq, not_true_eq_false, not_false_eq_true, if_true, if_false]

def orI : List Int → Int
  | [] => 0
  | a :: l => if a ≠ 0 then a else orI l
theorem orR (a b c d : Int) : Fn1 P 48 [.d (.sl [[dv a], [dv b], [dv c], [dv d]])] (.i (orI [a, b, c, d])) := by
  refine .walk (hP ▸ d48_ok) fun K hK => ?_
  generalize hes : [[dv a], [dv b], [dv c], [dv d]] = es
  have hea : es = [a, b, c, d].map dI := hes.symm
  have la : (es.length : Int) = 4 := by simp [hea]
  generalize hl : [a, b, c, d] = l at hea ⊢
  have ll : l.length = 4 := by simp [← hl]
  clear hes
  cbv
  refine .intro (ι := Int × Int) (fun k => [.top, .top, .top, .i 0, .top, .top, .d (.sl es), .i k.1, .i k.2] ++ List.replicate 9 .top) (fun _ => []) (fun env _ => (iAt env 7, iAt env 8))
    (fun k => k.1 = 4 ∧ 0 ≤ k.2 ∧ k.2 ≤ 4 ∧ orI l = orI (l.drop k.2.toNat)) (fun k => 4 - k.2.toNat) ((Classical.choice ioEx).1.len es, 0) ?_ (.mt [] ?_) fun k hk Kn hKn => ?_
  · simp only [x_len, la]; simp
  · (cbv; repeat (refine ⟨rfl, ?_⟩; cbv))
  obtain ⟨n, k⟩ := k
  obtain ⟨hn4, hk0, hk1, hk2⟩ := hk
  dsimp only at hn4 hk0 hk1 hk2
  cbv
  refine brk (fun h => ?_) (fun h => ?_)
  · simp only [x_lt, hn4, decide_eq_true_eq] at h
    cbv
    refine .map hea hk0 (by (first | omega | ((try simp only [nc] at *); (try simp only [Int.ofNat_eq_natCast] at *); omega))) (fun _ => rfl) fun x hx => ?_
    have hd : l.drop k.toNat = x :: l.drop (k.toNat + 1) := by
      have hlt : k.toNat < l.length := (List.getElem?_eq_some_iff.1 hx).1
      rw [List.drop_eq_getElem_cons hlt, (List.getElem?_eq_some_iff.1 hx).2]
    rw [hd] at hk2
    cbv
    refine brk (fun h1 => ?_) (fun h1 => ?_)
    · simp only [x_not, x_eq, Bool.not_eq_true', decide_eq_false_iff_not] at h1
      cbv
      refine hK _ _ (inE ?_)
      rw [hl, hk2, orI, if_pos h1]
    · simp only [x_not, x_eq, Bool.not_eq_false', decide_eq_true_eq] at h1
      cbv
      refine hKn _ _ (.mt [] ?_) ?_ ?_
      · (cbv; repeat (refine ⟨rfl, ?_⟩; cbv))
      · simp only [iAt, geti, x_add]
        rw [wr64 (by (first | omega | ((try simp only [nc] at *); (try simp only [Int.ofNat_eq_natCast] at *); omega))) (by (first | omega | ((try simp only [nc] at *); (try simp only [Int.ofNat_eq_natCast] at *); omega))), toNat_succ hk0]
        exact ⟨hn4, by (first | omega | ((try simp only [nc] at *); (try simp only [Int.ofNat_eq_natCast] at *); omega)), by (first | omega | ((try simp only [nc] at *); (try simp only [Int.ofNat_eq_natCast] at *); omega)), by rw [hk2, orI, if_neg (by simpa using h1)]⟩
      · simp only [iAt, geti, x_add]
        rw [wr64 (by (first | omega | ((try simp only [nc] at *); (try simp only [Int.ofNat_eq_natCast] at *); omega))) (by (first | omega | ((try simp only [nc] at *); (try simp only [Int.ofNat_eq_natCast] at *); omega)))]
        (first | omega | ((try simp only [nc] at *); (try simp only [Int.ofNat_eq_natCast] at *); omega))
  · simp only [x_lt, hn4, decide_eq_false_iff_not] at h
    cbv
    refine hK _ _ (inE ?_)
    rw [hl, hk2, List.drop_eq_nil_of_le (by (first | omega | ((try simp only [nc] at *); (try simp only [Int.ofNat_eq_natCast] at *); omega)))]; rfl

def orderP (a b : Place) : Int := orI [cmpI a.level b.level, cmpI a.block b.block, cmpI a.row b.row, cmpI a.seat b.seat]
theorem orderR (p q : Place) (i j : Int) : Fn1 P 42 [p.at i, q.at j] (.i (orderP p q)) := by
  obtain ⟨kind, level, block, row, seat, x, y, view, wit⟩ := p
  obtain ⟨kind', level', block', row', seat', x', y', view', wit'⟩ := q
  refine .walk (hP ▸ d42_ok) fun K hK => ?_
  cbv
  refine .f1 (compare hP _ _) rfl rfl ?_
  generalize hc1 : cmpI level level' = c1
  cbv
  refine .f1 (compare hP _ _) rfl rfl ?_
  generalize hc2 : cmpI block block' = c2
  cbv
  refine .f1 (compare hP _ _) rfl rfl ?_
  generalize hc3 : cmpI row row' = c3
  cbv
  refine .f1 (compare hP _ _) rfl rfl ?_
  generalize hc4 : cmpI seat seat' = c4
  cbv
  refine .f1 (orR hP _ _ _ _) rfl rfl ?_
  generalize hc5 : orI [c1, c2, c3, c4] = c5
  cbv
  refine hK _ _ (inE ?_)
  rw [← hc5, orderP, ← hc1, ← hc2, ← hc3, ← hc4]

def Place.next (p : Place) : Place := { p with seat := IntKind.i64.wrap (p.seat + 1) }
theorem followsR (p q : Place) (i j : Int) : Fn1 P 34 [p.at i, q.at j] (.b (decide (orderP p q.next = 0))) := by
  obtain ⟨kind, level, block, row, seat, x, y, view, wit⟩ := p
  obtain ⟨kind', level', block', row', seat', x', y', view', wit'⟩ := q
  refine .walk (hP ▸ d34_ok) fun K hK => ?_
  cbv
  refine .f1 (orderR hP ⟨_, _, _, _, _, _, _, _, _⟩ ⟨_, _, _, _, _, _, _, _, _⟩ _ _) rfl rfl ?_
  generalize hc5 : orderP _ _ = c5
  cbv
  refine hK _ _ (biE ?_)
  simp only [x_eq, ← hc5, x_add]; rfl
end Go.SX.Runs
/-
  Runs: ordered lists, the seats of a list.
-/
namespace Go.SX.Runs
open Go Go.Proofs

def adj {α : Type} (r : α → α → Bool) : List α → Bool
  | [] => true
  | [_] => true
  | a :: b :: l => r a b && adj r (b :: l)
theorem adj_snoc {α : Type} (r : α → α → Bool) (x : α) : ∀ l : List α, adj r (l ++ [x]) = (adj r l && (match l.getLast? with | some y => r y x | none => true))
  | [] => rfl
  | [a] => by simp [adj]
  | a :: b :: l => by
    have ih := adj_snoc r x (b :: l)
    simp only [List.cons_append] at ih
    simp only [List.cons_append, adj, ih, List.getLast?_cons_cons, Bool.and_assoc]

def isSeat (p : Place) : Bool := decide (0 ≤ p.row)
def seatsL (l : List Place) : List (Place × Nat) := l.zipIdx.filter fun x => isSeat x.1
theorem seatsL_take {l : List Place} {k : Nat} {x : Place} (h : l[k]? = some x) : seatsL (l.take (k + 1)) = seatsL (l.take k) ++ (if isSeat x then [(x, k)] else []) := by
  rw [take_succ_eq h, seatsL, List.zipIdx_append, List.filter_append]
  have hk : (l.take k).length = k := by
    have := (List.getElem?_eq_some_iff.1 h).1
    rw [List.length_take]; omega
  rw [hk, Nat.zero_add]
  congr 1
  simp only [List.zipIdx_cons, List.zipIdx_nil, List.filter_cons, List.filter_nil]
theorem seatsL_mem {l : List Place} {p : Place} {j : Nat} (h : (p, j) ∈ seatsL l) : l[j]? = some p ∧ isSeat p = true := by
  rw [seatsL, List.mem_filter] at h
  exact ⟨List.mem_zipIdx_iff_getElem?.1 h.1, h.2⟩
def orderedP (l : List Place) : Bool := adj (fun a b => beforeP a.1 b.1) (seatsL l)
def lastIs (s : List (Place × Nat)) (n : Int) : Prop := match s.getLast? with | some y => n = y.2 | none => n = -1

theorem adj_append {α : Type} (r : α → α → Bool) (b : List α) : ∀ a : List α, adj r (a ++ b) = true → adj r a = true
  | [], _ => rfl
  | [x], _ => rfl
  | x :: y :: l, h => by
    simp only [List.cons_append, adj, Bool.and_eq_true] at h ⊢
    exact ⟨h.1, adj_append r b (y :: l) h.2⟩
theorem seatsL_prefix (l : List Place) (n : Nat) : ∃ r, seatsL l = seatsL (l.take n) ++ r := by
  refine ⟨((l.drop n).zipIdx (0 + (l.take n).length)).filter fun x => isSeat x.1, ?_⟩
  rw [seatsL, seatsL, ← List.filter_append, ← List.zipIdx_append, List.take_append_drop]
theorem orderedP_false {l : List Place} {n : Nat} (h : adj (fun a b : Place × Nat => beforeP a.1 b.1) (seatsL (l.take n)) = false) : orderedP l = false := by
  obtain ⟨r, hr⟩ := seatsL_prefix l n
  rw [orderedP, hr]
  cases ha : adj (fun a b : Place × Nat => beforeP a.1 b.1) (seatsL (l.take n) ++ r) with
  | false => rfl
  | true => rw [adj_append _ _ _ ha] at h; cases h
variable {P : Program} (hP : P = Try.prog)
include hP
theorem orderedR {l : List Place} {el : List (List D)} (hel : el = l.map Place.ds) (hl : l.length ≤ 1000000000) : Fn1 P 22 [.d (.sl el)] (.b (orderedP l)) := by
  refine .walk (hP ▸ d22_ok) fun K hK => ?_
  have la : (el.length : Int) = l.length := by simp [hel]
  cbv
  refine .intro (ι := Int × Int) (fun k => [.d (.sl el), .top, .top, .i k.1, .i k.2] ++ List.replicate 27 .top) (fun _ => []) (fun env _ => (iAt env 3, iAt env 4))
    (fun k => 0 ≤ k.2 ∧ k.2 ≤ l.length ∧ adj (fun a b => beforeP a.1 b.1) (seatsL (l.take k.2.toNat)) = true ∧ lastIs (seatsL (l.take k.2.toNat)) k.1) (fun k => l.length - k.2.toNat) (-1, 0) ?_ (.mt [] ?_) fun k hk Kn hKn => ?_
  · exact ⟨Int.le_refl _, by omega, rfl, rfl⟩
  · (cbv; repeat (refine ⟨rfl, ?_⟩; cbv))
  obtain ⟨last, k⟩ := k
  obtain ⟨hk0, hk1, hk2, hk3⟩ := hk
  dsimp only at hk0 hk1 hk2 hk3
  cbv
  refine brk (fun h => ?_) (fun h => ?_)
  · simp only [x_lt, x_len, la, decide_eq_true_eq] at h
    cbv
    refine .map hel hk0 (by ((try simp only [nc] at *); (try simp only [Int.ofNat_eq_natCast] at *); omega)) (fun _ => rfl) fun x hx => ?_
    have hst := seatsL_take hx
    cbv
    refine .f1 (seatR hP x) rfl rfl ?_
    generalize hv : decide (0 ≤ x.row) = v
    have hs : isSeat x = v := hv
    cbv
    refine brk (fun h1 => ?_) (fun h1 => ?_)
    · simp only [x_not, Bool.not_eq_true'] at h1
      rw [hs, h1] at hst
      simp only [Bool.false_eq_true, if_false, List.append_nil] at hst
      cbv
      refine hKn _ _ (.mt [] ?_) ?_ ?_
      · (cbv; repeat (refine ⟨rfl, ?_⟩; cbv))
      · simp only [iAt, geti, x_add]
        rw [wr64 (by ((try simp only [nc] at *); (try simp only [Int.ofNat_eq_natCast] at *); omega)) (by ((try simp only [nc] at *); (try simp only [Int.ofNat_eq_natCast] at *); omega)), toNat_succ hk0, hst]
        exact ⟨by ((try simp only [nc] at *); (try simp only [Int.ofNat_eq_natCast] at *); omega), by ((try simp only [nc] at *); (try simp only [Int.ofNat_eq_natCast] at *); omega), hk2, hk3⟩
      · simp only [iAt, geti, x_add]
        rw [wr64 (by ((try simp only [nc] at *); (try simp only [Int.ofNat_eq_natCast] at *); omega)) (by ((try simp only [nc] at *); (try simp only [Int.ofNat_eq_natCast] at *); omega))]
        ((try simp only [nc] at *); (try simp only [Int.ofNat_eq_natCast] at *); omega)
    · simp only [x_not, Bool.not_eq_false'] at h1
      rw [hs, h1] at hst
      simp only [if_true] at hst
      have hadj := adj_snoc (fun a b : Place × Nat => beforeP a.1 b.1) (x, k.toNat) (seatsL (l.take k.toNat))
      rw [hk2, Bool.true_and, ← hst] at hadj
      cbv
      refine brk (fun h2 => ?_) (fun h2 => ?_)
      · simp only [x_le, decide_eq_true_eq] at h2
        obtain ⟨p, j, hp, hj, hlj⟩ : ∃ (p : Place) (j : Nat), (seatsL (l.take k.toNat)).getLast? = some (p, j) ∧ last = Int.ofNat j ∧ l[j]? = some p := by
          unfold lastIs at hk3
          cases hg : (seatsL (l.take k.toNat)).getLast? with
          | none => rw [hg] at hk3; simp only at hk3; omega
          | some y =>
            rw [hg] at hk3
            refine ⟨y.1, y.2, rfl, hk3, ?_⟩
            have := (seatsL_mem (List.mem_of_getLast? hg)).1
            rw [List.getElem?_take] at this
            split at this
            · exact this
            · cases this
        subst hj
        have hjl : j < l.length := (List.getElem?_eq_some_iff.1 hlj).1
        rw [hp] at hadj
        simp only at hadj
        cbv
        refine .map hel (Int.natCast_nonneg j) (by ((try simp only [nc] at *); (try simp only [Int.ofNat_eq_natCast] at *); omega)) (fun _ => rfl) fun q hq => ?_
        have hq' : q = p := by
          have : l[(Int.ofNat j).toNat]? = some q := hq
          rw [show (Int.ofNat j).toNat = j from rfl, hlj] at this
          cases this; rfl
        subst hq'
        cbv
        refine .map hel hk0 (by ((try simp only [nc] at *); (try simp only [Int.ofNat_eq_natCast] at *); omega)) (fun _ => rfl) fun x' hx' => ?_
        rw [hx] at hx'
        obtain rfl : x = x' := by cases hx'; rfl
        cbv
        refine .f1 (beforeR hP q x) rfl rfl ?_
        generalize hw : beforeP q x = v2
        rw [hw] at hadj
        cbv
        refine brk (fun h3 => ?_) (fun h3 => ?_)
        · simp only [x_not, Bool.not_eq_true'] at h3
          cbv
          refine hK _ _ (biE ?_)
          exact (orderedP_false (by rw [hadj, h3])).symm
        · simp only [x_not, Bool.not_eq_false'] at h3
          cbv
          refine hKn _ _ (.mt [] ?_) ?_ ?_
          · (cbv; repeat (refine ⟨rfl, ?_⟩; cbv))
          · simp only [iAt, geti, x_add]
            rw [wr64 (by ((try simp only [nc] at *); (try simp only [Int.ofNat_eq_natCast] at *); omega)) (by ((try simp only [nc] at *); (try simp only [Int.ofNat_eq_natCast] at *); omega)), toNat_succ hk0]
            refine ⟨by ((try simp only [nc] at *); (try simp only [Int.ofNat_eq_natCast] at *); omega), by ((try simp only [nc] at *); (try simp only [Int.ofNat_eq_natCast] at *); omega), by rw [hadj, h3], ?_⟩
            rw [hst, lastIs, List.getLast?_append]
            simp; ((try simp only [nc] at *); (try simp only [Int.ofNat_eq_natCast] at *); omega)
          · simp only [iAt, geti, x_add]
            rw [wr64 (by ((try simp only [nc] at *); (try simp only [Int.ofNat_eq_natCast] at *); omega)) (by ((try simp only [nc] at *); (try simp only [Int.ofNat_eq_natCast] at *); omega))]
            ((try simp only [nc] at *); (try simp only [Int.ofNat_eq_natCast] at *); omega)
      · simp only [x_le, decide_eq_false_iff_not] at h2
        have hno : (seatsL (l.take k.toNat)).getLast? = none := by
          unfold lastIs at hk3
          cases hg : (seatsL (l.take k.toNat)).getLast? with
          | none => rfl
          | some y => rw [hg] at hk3; simp only at hk3; ((try simp only [nc] at *); (try simp only [Int.ofNat_eq_natCast] at *); omega)
        rw [hno] at hadj
        simp only at hadj
        cbv
        refine hKn _ _ (.mt [] ?_) ?_ ?_
        · (cbv; repeat (refine ⟨rfl, ?_⟩; cbv))
        · simp only [iAt, geti, x_add]
          rw [wr64 (by ((try simp only [nc] at *); (try simp only [Int.ofNat_eq_natCast] at *); omega)) (by ((try simp only [nc] at *); (try simp only [Int.ofNat_eq_natCast] at *); omega)), toNat_succ hk0]
          refine ⟨by ((try simp only [nc] at *); (try simp only [Int.ofNat_eq_natCast] at *); omega), by ((try simp only [nc] at *); (try simp only [Int.ofNat_eq_natCast] at *); omega), hadj, ?_⟩
          rw [hst, lastIs, List.getLast?_append]
          simp; ((try simp only [nc] at *); (try simp only [Int.ofNat_eq_natCast] at *); omega)
        · simp only [iAt, geti, x_add]
          rw [wr64 (by ((try simp only [nc] at *); (try simp only [Int.ofNat_eq_natCast] at *); omega)) (by ((try simp only [nc] at *); (try simp only [Int.ofNat_eq_natCast] at *); omega))]
          ((try simp only [nc] at *); (try simp only [Int.ofNat_eq_natCast] at *); omega)
  · simp only [x_lt, x_len, la, decide_eq_false_iff_not] at h
    cbv
    refine hK _ _ (biE ?_)
    rw [List.take_of_length_le (by ((try simp only [nc] at *); (try simp only [Int.ofNat_eq_natCast] at *); omega))] at hk2
    exact hk2.symm
end Go.SX.Runs
