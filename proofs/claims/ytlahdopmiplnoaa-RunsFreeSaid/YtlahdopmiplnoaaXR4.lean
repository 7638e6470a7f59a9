/-
  Runs: ordered lists, the seats of a list.
-/
import Derived.Test.YtlahdopmiplnoaaXR3
namespace Go.SX.Runs
open Go Go.Proofs

def adj {α : Type} (r : α → α → Bool) : List α → Bool
  | [] => true
  | [_] => true
  | a :: b :: l => r a b && adj r (b :: l)
theorem adj_snoc {α : Type} (r : α → α → Bool) (x : α) : ∀ l : List α, adj r (l ++ [x]) = (adj r l && (match l.getLast? with | some y => r y x | none => true))
  | [] => rfl
  | [a] => by simp [adj]
  | a :: b :: l => by
    have ih := adj_snoc r x (b :: l)
    simp only [List.cons_append] at ih
    simp only [List.cons_append, adj, ih, List.getLast?_cons_cons, Bool.and_assoc]

def isSeat (p : Place) : Bool := decide (0 ≤ p.row)
def seatsL (l : List Place) : List (Place × Nat) := l.zipIdx.filter fun x => isSeat x.1
theorem seatsL_take {l : List Place} {k : Nat} {x : Place} (h : l[k]? = some x) : seatsL (l.take (k + 1)) = seatsL (l.take k) ++ (if isSeat x then [(x, k)] else []) := by
  rw [take_succ_eq h, seatsL, List.zipIdx_append, List.filter_append]
  have hk : (l.take k).length = k := by
    have := (List.getElem?_eq_some_iff.1 h).1
    rw [List.length_take]; omega
  rw [hk, Nat.zero_add]
  congr 1
  simp only [List.zipIdx_cons, List.zipIdx_nil, List.filter_cons, List.filter_nil]
theorem seatsL_mem {l : List Place} {p : Place} {j : Nat} (h : (p, j) ∈ seatsL l) : l[j]? = some p ∧ isSeat p = true := by
  rw [seatsL, List.mem_filter] at h
  exact ⟨List.mem_zipIdx_iff_getElem?.1 h.1, h.2⟩
def orderedP (l : List Place) : Bool := adj (fun a b => beforeP a.1 b.1) (seatsL l)
def lastIs (s : List (Place × Nat)) (n : Int) : Prop := match s.getLast? with | some y => n = y.2 | none => n = -1

theorem adj_append {α : Type} (r : α → α → Bool) (b : List α) : ∀ a : List α, adj r (a ++ b) = true → adj r a = true
  | [], _ => rfl
  | [x], _ => rfl
  | x :: y :: l, h => by
    simp only [List.cons_append, adj, Bool.and_eq_true] at h ⊢
    exact ⟨h.1, adj_append r b (y :: l) h.2⟩
theorem seatsL_prefix (l : List Place) (n : Nat) : ∃ r, seatsL l = seatsL (l.take n) ++ r := by
  refine ⟨((l.drop n).zipIdx (0 + (l.take n).length)).filter fun x => isSeat x.1, ?_⟩
  rw [seatsL, seatsL, ← List.filter_append, ← List.zipIdx_append, List.take_append_drop]
theorem orderedP_false {l : List Place} {n : Nat} (h : adj (fun a b : Place × Nat => beforeP a.1 b.1) (seatsL (l.take n)) = false) : orderedP l = false := by
  obtain ⟨r, hr⟩ := seatsL_prefix l n
  rw [orderedP, hr]
  cases ha : adj (fun a b : Place × Nat => beforeP a.1 b.1) (seatsL (l.take n) ++ r) with
  | false => rfl
  | true => rw [adj_append _ _ _ ha] at h; cases h
variable {P : Program} (hP : P = Try.prog)
include hP
theorem orderedR {l : List Place} {el : List (List D)} (hel : el = l.map Place.ds) (hl : l.length ≤ 1000000000) : Fn1 P 22 [.d (.sl el)] (.b (orderedP l)) := by
  refine .walk (hP ▸ d22_ok) fun K hK => ?_
  have la : (el.length : Int) = l.length := by simp [hel]
  cbv
  refine .intro (ι := Int × Int) (fun k => [.d (.sl el), .top, .top, .i k.1, .i k.2] ++ List.replicate 27 .top) (fun _ => []) (fun env _ => (iAt env 3, iAt env 4))
    (fun k => 0 ≤ k.2 ∧ k.2 ≤ l.length ∧ adj (fun a b => beforeP a.1 b.1) (seatsL (l.take k.2.toNat)) = true ∧ lastIs (seatsL (l.take k.2.toNat)) k.1) (fun k => l.length - k.2.toNat) (-1, 0) ?_ (.mt [] ?_) fun k hk Kn hKn => ?_
  · exact ⟨Int.le_refl _, by omega, rfl, rfl⟩
  · (cbv; repeat (refine ⟨rfl, ?_⟩; cbv))
  obtain ⟨last, k⟩ := k
  obtain ⟨hk0, hk1, hk2, hk3⟩ := hk
  dsimp only at hk0 hk1 hk2 hk3
  cbv
  refine brk (fun h => ?_) (fun h => ?_)
  · simp only [x_lt, x_len, la, decide_eq_true_eq] at h
    cbv
    refine .map hel hk0 (by ((try simp only [nc] at *); (try simp only [Int.ofNat_eq_natCast] at *); omega)) (fun _ => rfl) fun x hx => ?_
    have hst := seatsL_take hx
    cbv
    refine .f1 (seatR hP x) rfl rfl ?_
    generalize hv : decide (0 ≤ x.row) = v
    have hs : isSeat x = v := hv
    cbv
    refine brk (fun h1 => ?_) (fun h1 => ?_)
    · simp only [x_not, Bool.not_eq_true'] at h1
      rw [hs, h1] at hst
      simp only [Bool.false_eq_true, if_false, List.append_nil] at hst
      cbv
      refine hKn _ _ (.mt [] ?_) ?_ ?_
      · (cbv; repeat (refine ⟨rfl, ?_⟩; cbv))
      · simp only [iAt, geti, x_add]
        rw [wr64 (by ((try simp only [nc] at *); (try simp only [Int.ofNat_eq_natCast] at *); omega)) (by ((try simp only [nc] at *); (try simp only [Int.ofNat_eq_natCast] at *); omega)), toNat_succ hk0, hst]
        exact ⟨by ((try simp only [nc] at *); (try simp only [Int.ofNat_eq_natCast] at *); omega), by ((try simp only [nc] at *); (try simp only [Int.ofNat_eq_natCast] at *); omega), hk2, hk3⟩
      · simp only [iAt, geti, x_add]
        rw [wr64 (by ((try simp only [nc] at *); (try simp only [Int.ofNat_eq_natCast] at *); omega)) (by ((try simp only [nc] at *); (try simp only [Int.ofNat_eq_natCast] at *); omega))]
        ((try simp only [nc] at *); (try simp only [Int.ofNat_eq_natCast] at *); omega)
    · simp only [x_not, Bool.not_eq_false'] at h1
      rw [hs, h1] at hst
      simp only [if_true] at hst
      have hadj := adj_snoc (fun a b : Place × Nat => beforeP a.1 b.1) (x, k.toNat) (seatsL (l.take k.toNat))
      rw [hk2, Bool.true_and, ← hst] at hadj
      cbv
      refine brk (fun h2 => ?_) (fun h2 => ?_)
      · simp only [x_le, decide_eq_true_eq] at h2
        obtain ⟨p, j, hp, hj, hlj⟩ : ∃ (p : Place) (j : Nat), (seatsL (l.take k.toNat)).getLast? = some (p, j) ∧ last = Int.ofNat j ∧ l[j]? = some p := by
          unfold lastIs at hk3
          cases hg : (seatsL (l.take k.toNat)).getLast? with
          | none => rw [hg] at hk3; simp only at hk3; omega
          | some y =>
            rw [hg] at hk3
            refine ⟨y.1, y.2, rfl, hk3, ?_⟩
            have := (seatsL_mem (List.mem_of_getLast? hg)).1
            rw [List.getElem?_take] at this
            split at this
            · exact this
            · cases this
        subst hj
        have hjl : j < l.length := (List.getElem?_eq_some_iff.1 hlj).1
        rw [hp] at hadj
        simp only at hadj
        cbv
        refine .map hel (Int.natCast_nonneg j) (by ((try simp only [nc] at *); (try simp only [Int.ofNat_eq_natCast] at *); omega)) (fun _ => rfl) fun q hq => ?_
        have hq' : q = p := by
          have : l[(Int.ofNat j).toNat]? = some q := hq
          rw [show (Int.ofNat j).toNat = j from rfl, hlj] at this
          cases this; rfl
        subst hq'
        cbv
        refine .map hel hk0 (by ((try simp only [nc] at *); (try simp only [Int.ofNat_eq_natCast] at *); omega)) (fun _ => rfl) fun x' hx' => ?_
        rw [hx] at hx'
        obtain rfl : x = x' := by cases hx'; rfl
        cbv
        refine .f1 (beforeR hP q x) rfl rfl ?_
        generalize hw : beforeP q x = v2
        rw [hw] at hadj
        cbv
        refine brk (fun h3 => ?_) (fun h3 => ?_)
        · simp only [x_not, Bool.not_eq_true'] at h3
          cbv
          refine hK _ _ (biE ?_)
          exact (orderedP_false (by rw [hadj, h3])).symm
        · simp only [x_not, Bool.not_eq_false'] at h3
          cbv
          refine hKn _ _ (.mt [] ?_) ?_ ?_
          · (cbv; repeat (refine ⟨rfl, ?_⟩; cbv))
          · simp only [iAt, geti, x_add]
            rw [wr64 (by ((try simp only [nc] at *); (try simp only [Int.ofNat_eq_natCast] at *); omega)) (by ((try simp only [nc] at *); (try simp only [Int.ofNat_eq_natCast] at *); omega)), toNat_succ hk0]
            refine ⟨by ((try simp only [nc] at *); (try simp only [Int.ofNat_eq_natCast] at *); omega), by ((try simp only [nc] at *); (try simp only [Int.ofNat_eq_natCast] at *); omega), by rw [hadj, h3], ?_⟩
            rw [hst, lastIs, List.getLast?_append]
            simp; ((try simp only [nc] at *); (try simp only [Int.ofNat_eq_natCast] at *); omega)
          · simp only [iAt, geti, x_add]
            rw [wr64 (by ((try simp only [nc] at *); (try simp only [Int.ofNat_eq_natCast] at *); omega)) (by ((try simp only [nc] at *); (try simp only [Int.ofNat_eq_natCast] at *); omega))]
            ((try simp only [nc] at *); (try simp only [Int.ofNat_eq_natCast] at *); omega)
      · simp only [x_le, decide_eq_false_iff_not] at h2
        have hno : (seatsL (l.take k.toNat)).getLast? = none := by
          unfold lastIs at hk3
          cases hg : (seatsL (l.take k.toNat)).getLast? with
          | none => rfl
          | some y => rw [hg] at hk3; simp only at hk3; ((try simp only [nc] at *); (try simp only [Int.ofNat_eq_natCast] at *); omega)
        rw [hno] at hadj
        simp only at hadj
        cbv
        refine hKn _ _ (.mt [] ?_) ?_ ?_
        · (cbv; repeat (refine ⟨rfl, ?_⟩; cbv))
        · simp only [iAt, geti, x_add]
          rw [wr64 (by ((try simp only [nc] at *); (try simp only [Int.ofNat_eq_natCast] at *); omega)) (by ((try simp only [nc] at *); (try simp only [Int.ofNat_eq_natCast] at *); omega)), toNat_succ hk0]
          refine ⟨by ((try simp only [nc] at *); (try simp only [Int.ofNat_eq_natCast] at *); omega), by ((try simp only [nc] at *); (try simp only [Int.ofNat_eq_natCast] at *); omega), hadj, ?_⟩
          rw [hst, lastIs, List.getLast?_append]
          simp; ((try simp only [nc] at *); (try simp only [Int.ofNat_eq_natCast] at *); omega)
        · simp only [iAt, geti, x_add]
          rw [wr64 (by ((try simp only [nc] at *); (try simp only [Int.ofNat_eq_natCast] at *); omega)) (by ((try simp only [nc] at *); (try simp only [Int.ofNat_eq_natCast] at *); omega))]
          ((try simp only [nc] at *); (try simp only [Int.ofNat_eq_natCast] at *); omega)
  · simp only [x_lt, x_len, la, decide_eq_false_iff_not] at h
    cbv
    refine hK _ _ (biE ?_)
    rw [List.take_of_length_le (by ((try simp only [nc] at *); (try simp only [Int.ofNat_eq_natCast] at *); omega))] at hk2
    exact hk2.symm
end Go.SX.Runs
