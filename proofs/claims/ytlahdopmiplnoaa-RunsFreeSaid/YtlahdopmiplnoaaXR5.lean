/-
  Runs: the seats of a list.
-/
import Derived.Test.YtlahdopmiplnoaaXR4
namespace Go.SX.Runs
open Go Go.Proofs

def seatD (x : Place × Nat) : List D := [dv x.1.kind, dv x.1.level, dv x.1.block, dv x.1.row, dv x.1.seat, dv x.1.x, dv x.1.y, dv x.1.view, dv x.1.wit, dv x.2]
def seatsOk (l : List Place) : Bool := adj (fun a b => decide (orderP a.1 b.1 < 0)) (seatsL l)

theorem seatsL_len (l : List Place) : (seatsL l).length ≤ l.length := by
  rw [seatsL]
  exact Nat.le_trans (List.length_filter_le _ _) (by simp)

variable {P : Program} (hP : P = Try.prog)
include hP
theorem seatsR0 {l : List Place} {el : List (List D)} (hel : el = l.map Place.ds) (hl : l.length ≤ 1000000000) :
    SCall P 29 [] [.d (.sl el)] (fun sv own' => (seatsOk l = true ∧ sv = .tup [.hd 0, .b true] ∧ own' = [.row 52 10 ((seatsL l).map seatD)]) ∨ (seatsOk l = false ∧ sv = .tup [.d (.val (.slice none 0 0)), .b false] ∧ ∃ es0, own' = [.row 52 10 es0])) := by
  refine .walk (hP ▸ d29_ok) fun K hK => ?_
  have la : (el.length : Int) = l.length := by simp [hel]
  cbv
  refine .intro (ι := List (List D) × Int × Int) (fun k => [.d (.sl el), .top, .top, .top, .hd 0, .top, .top, .top, .d (.sl el), .i k.2.1, .i k.2.2] ++ List.replicate 32 .top) (fun k => [.row 52 10 k.1]) (fun env own => (rAt own (hAt env 4), iAt env 9, iAt env 10))
    (fun k => k.2.1 = l.length ∧ 0 ≤ k.2.2 ∧ k.2.2 ≤ l.length ∧ k.1 = (seatsL (l.take k.2.2.toNat)).map seatD) (fun k => l.length - k.2.2.toNat) ([], (Classical.choice ioEx).1.len el, 0) ?_ (.nilrow 4 52 10 rfl (.mt [0] ?_)) fun k hk Kn hKn => ?_
  · exact ⟨by simp only [x_len, la], Int.le_refl _, Int.natCast_nonneg _, rfl⟩
  · (cbv; repeat (refine ⟨rfl, ?_⟩; cbv))
  obtain ⟨es, n, k⟩ := k
  obtain ⟨hn, hk0, hk1, hk2⟩ := hk
  dsimp only at hn hk0 hk1 hk2
  cbv
  refine brk (fun h => ?_) (fun h => ?_)
  · simp only [x_lt, hn, decide_eq_true_eq] at h
    cbv
    refine .map hel hk0 (by ((try simp only [nc] at *); (try simp only [Int.ofNat_eq_natCast] at *); omega)) (fun _ => rfl) fun x hx => ?_
    have hst := seatsL_take hx
    cbv
    refine brk (fun h1 => ?_) (fun h1 => ?_)
    · simp only [x_le, decide_eq_true_eq] at h1
      have hs : isSeat x = true := decide_eq_true h1
      rw [hs, if_pos rfl] at hst
      have hes : (es.length : Int) ≤ k := by
        rw [hk2, List.length_map]
        have := seatsL_len (l.take k.toNat)
        rw [List.length_take] at this
        ((try simp only [nc] at *); (try simp only [Int.ofNat_eq_natCast] at *); omega)
      cbv
      refine .one rfl (by ((try simp only [nc] at *); (try simp only [Int.ofNat_eq_natCast] at *); omega)) (by decide) ?_
      cbv
      refine hKn _ _ (.mt [3] ?_) ?_ ?_
      · (cbv; repeat (refine ⟨rfl, ?_⟩; cbv))
      · simp only [iAt, geti, hAt, rAt, getr, x_add, x_app]
        rw [wr64 (by ((try simp only [nc] at *); (try simp only [Int.ofNat_eq_natCast] at *); omega)) (by ((try simp only [nc] at *); (try simp only [Int.ofNat_eq_natCast] at *); omega)), toNat_succ hk0]
        refine ⟨hn, by ((try simp only [nc] at *); (try simp only [Int.ofNat_eq_natCast] at *); omega), by ((try simp only [nc] at *); (try simp only [Int.ofNat_eq_natCast] at *); omega), ?_⟩
        rw [hst, List.map_append, hk2]
        congr 1
        simp only [List.map_cons, List.map_nil, seatD, Int.toNat_of_nonneg hk0]
      · simp only [iAt, geti, x_add]
        rw [wr64 (by ((try simp only [nc] at *); (try simp only [Int.ofNat_eq_natCast] at *); omega)) (by ((try simp only [nc] at *); (try simp only [Int.ofNat_eq_natCast] at *); omega))]
        ((try simp only [nc] at *); (try simp only [Int.ofNat_eq_natCast] at *); omega)
    · simp only [x_le, decide_eq_false_iff_not] at h1
      have hs : isSeat x = false := decide_eq_false h1
      rw [hs, if_neg (by simp), List.append_nil] at hst
      cbv
      refine hKn _ _ (.mt [0] ?_) ?_ ?_
      · (cbv; repeat (refine ⟨rfl, ?_⟩; cbv))
      · simp only [iAt, geti, hAt, rAt, getr, x_add]
        rw [wr64 (by ((try simp only [nc] at *); (try simp only [Int.ofNat_eq_natCast] at *); omega)) (by ((try simp only [nc] at *); (try simp only [Int.ofNat_eq_natCast] at *); omega)), toNat_succ hk0]
        exact ⟨hn, by ((try simp only [nc] at *); (try simp only [Int.ofNat_eq_natCast] at *); omega), by ((try simp only [nc] at *); (try simp only [Int.ofNat_eq_natCast] at *); omega), by rw [hst]; exact hk2⟩
      · simp only [iAt, geti, x_add]
        rw [wr64 (by ((try simp only [nc] at *); (try simp only [Int.ofNat_eq_natCast] at *); omega)) (by ((try simp only [nc] at *); (try simp only [Int.ofNat_eq_natCast] at *); omega))]
        ((try simp only [nc] at *); (try simp only [Int.ofNat_eq_natCast] at *); omega)
  · simp only [x_lt, hn, decide_eq_false_iff_not] at h
    rw [List.take_of_length_le (by ((try simp only [nc] at *); (try simp only [Int.ofNat_eq_natCast] at *); omega))] at hk2
    have hes : es.length = (seatsL l).length := by rw [hk2, List.length_map]
    have hsl := seatsL_len l
    generalize hsL : seatsL l = sl at hk2 hes hsl
    cbv
    clear Kn hKn hk0 hk1 h hn hel la
    refine .intro (ι := Int) (fun k => [.top, .top, .top, .top, .hd 0, .top, .top, .i k] ++ List.replicate 35 .top) (fun _ => [.row 52 10 es]) (fun env _ => iAt env 7)
      (fun k => 1 ≤ k ∧ (k ≤ sl.length ∨ k = 1) ∧ adj (fun a b => decide (orderP a.1 b.1 < 0)) (sl.take k.toNat) = true) (fun k => sl.length - k.toNat) 1 ?_ (.mt [0] ?_) fun k hk Kn hKn => ?_
    · refine ⟨Int.le_refl _, .inr rfl, ?_⟩
      cases sl with
      | nil => rfl
      | cons a l => rfl
    · (cbv; repeat (refine ⟨rfl, ?_⟩; cbv))
    obtain ⟨hk0, hk1, hk3⟩ := hk
    cbv
    refine brk (fun h => ?_) (fun h => ?_)
    · simp only [x_lt, x_len, hes, decide_eq_true_eq] at h
      have w1 : IntKind.i64.wrap (k - 1) = k - 1 := wr64 (by ((try simp only [nc] at *); (try simp only [Int.ofNat_eq_natCast] at *); omega)) (by ((try simp only [nc] at *); (try simp only [Int.ofNat_eq_natCast] at *); omega))
      have hkn : (k - 1).toNat + 1 = k.toNat := by omega
      have hlt : k.toNat < sl.length := by ((try simp only [nc] at *); (try simp only [Int.ofNat_eq_natCast] at *); omega)
      cbv
      refine ⟨by simp only [x_subi, w1]; ((try simp only [nc] at *); (try simp only [Int.ofNat_eq_natCast] at *); omega), by simp only [x_subi, w1, hes]; ((try simp only [nc] at *); (try simp only [Int.ofNat_eq_natCast] at *); omega), ?_⟩
      cbv
      refine .map hk2 (by simp only [x_nat, x_subi, w1]; ((try simp only [nc] at *); (try simp only [Int.ofNat_eq_natCast] at *); omega)) fun x hx => ?_
      simp only [x_nat, x_subi, w1] at hx
      obtain ⟨x, xi⟩ := x
      cbv
      refine ⟨by ((try simp only [nc] at *); (try simp only [Int.ofNat_eq_natCast] at *); omega), by rw [hes]; ((try simp only [nc] at *); (try simp only [Int.ofNat_eq_natCast] at *); omega), ?_⟩
      cbv
      refine .map hk2 (by simp only [x_nat]; ((try simp only [nc] at *); (try simp only [Int.ofNat_eq_natCast] at *); omega)) fun y hy => ?_
      simp only [x_nat] at hy
      obtain ⟨y, yi⟩ := y
      have hadj := adj_snoc (fun a b : Place × Nat => decide (orderP a.1 b.1 < 0)) (y, yi) (sl.take k.toNat)
      have hla : (sl.take k.toNat).getLast? = some (x, xi) := by
        rw [← hkn, take_succ_eq hx, List.getLast?_append]; rfl
      rw [hla, ← take_succ_eq hy, hk3, Bool.true_and] at hadj
      dsimp only at hadj
      cbv
      refine .f1 (orderR hP x y _ _) rfl rfl ?_
      generalize hv : orderP x y = v
      rw [hv] at hadj
      cbv
      refine brk (fun h1 => ?_) (fun h1 => ?_)
      · simp only [x_le, decide_eq_true_eq] at h1
        cbv
        refine hK _ _ ?_
        have : seatsOk l = false := by
          rw [seatsOk, hsL]
          cases ha : adj (fun a b : Place × Nat => decide (orderP a.1 b.1 < 0)) sl with
          | false => rfl
          | true =>
            rw [← List.take_append_drop (k.toNat + 1) sl] at ha
            rw [adj_append _ _ _ ha] at hadj
            have := of_decide_eq_true hadj.symm
            omega
        exact .inr ⟨this, rfl, es, rfl⟩
      · simp only [x_le, decide_eq_false_iff_not] at h1
        cbv
        refine hKn _ _ (.mt [0] ?_) ?_ ?_
        · (cbv; repeat (refine ⟨rfl, ?_⟩; cbv))
        · simp only [iAt, geti, x_add]
          rw [wr64 (by ((try simp only [nc] at *); (try simp only [Int.ofNat_eq_natCast] at *); omega)) (by ((try simp only [nc] at *); (try simp only [Int.ofNat_eq_natCast] at *); omega)), toNat_succ (by omega)]
          refine ⟨by ((try simp only [nc] at *); (try simp only [Int.ofNat_eq_natCast] at *); omega), .inl (by ((try simp only [nc] at *); (try simp only [Int.ofNat_eq_natCast] at *); omega)), ?_⟩
          rw [hadj]; exact decide_eq_true (by omega)
        · simp only [iAt, geti, x_add]
          rw [wr64 (by ((try simp only [nc] at *); (try simp only [Int.ofNat_eq_natCast] at *); omega)) (by ((try simp only [nc] at *); (try simp only [Int.ofNat_eq_natCast] at *); omega))]
          ((try simp only [nc] at *); (try simp only [Int.ofNat_eq_natCast] at *); omega)
    · simp only [x_lt, x_len, hes, decide_eq_false_iff_not] at h
      rw [List.take_of_length_le (by ((try simp only [nc] at *); (try simp only [Int.ofNat_eq_natCast] at *); omega))] at hk3
      cbv
      refine hK _ _ ?_
      have : seatsOk l = true := by rw [seatsOk, hsL]; exact hk3
      exact .inl ⟨this, rfl, by rw [hsL, ← hk2]⟩

theorem seatsR {l : List Place} {el : List (List D)} (hel : el = l.map Place.ds) (hl : l.length ≤ 1000000000) :
    Fn1 P 29 [.d (.sl el)] (.tup [.d (.sl (if seatsOk l then (seatsL l).map seatD else [])), .b (seatsOk l)]) := by
  refine (seatsR0 hP hel hl).data fun sv own' h => ?_
  rcases h with ⟨h1, rfl, rfl⟩ | ⟨h1, rfl, es0, rfl⟩
  · rw [h1]; rfl
  · rw [h1]; rfl
end Go.SX.Runs
