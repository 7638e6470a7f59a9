/-
  Runs: the order of seats.
-/
import Derived.Test.YtlahdopmiplnoaaXR2
namespace Go.SX.Runs
open Go Go.Proofs
variable {P : Program} (hP : P = Try.prog)
include hP
def beforeP (a b : Place) : Bool :=
  if a.level ≠ b.level then decide (a.level < b.level) else
  if a.block ≠ b.block then decide (a.block < b.block) else
  if a.row ≠ b.row then decide (a.row < b.row) else decide (a.seat < b.seat)
theorem beforeR (p q : Place) : Fn1 P 41 [p.sv, q.sv] (.b (beforeP p q)) := by
  obtain ⟨kind, level, block, row, seat, x, y, view, wit⟩ := p
  obtain ⟨kind', level', block', row', seat', x', y', view', wit'⟩ := q
  refine .walk (hP ▸ d41_ok) fun K hK => ?_
  cbv
  repeat' (refine brk (fun _ => ?_) (fun _ => ?_) <;> cbv)
  all_goals
    refine hK _ _ ?_
    simp_all only [x_not, x_eq, x_lt, beforeP, decide_eq_true_eq, decide_eq_false_iff_not, Bool.not_eq_true', Bool.not_eq_false', ne_eq, not_true_eq_false, not_false_eq_true, if_true, if_false]

def orI : List Int → Int
  | [] => 0
  | a :: l => if a ≠ 0 then a else orI l
theorem orR (a b c d : Int) : Fn1 P 48 [.d (.sl [[dv a], [dv b], [dv c], [dv d]])] (.i (orI [a, b, c, d])) := by
  refine .walk (hP ▸ d48_ok) fun K hK => ?_
  generalize hes : [[dv a], [dv b], [dv c], [dv d]] = es
  have hea : es = [a, b, c, d].map dI := hes.symm
  have la : (es.length : Int) = 4 := by simp [hea]
  generalize hl : [a, b, c, d] = l at hea ⊢
  have ll : l.length = 4 := by simp [← hl]
  clear hes
  cbv
  refine .intro (ι := Int × Int) (fun k => [.top, .top, .top, .i 0, .top, .top, .d (.sl es), .i k.1, .i k.2] ++ List.replicate 9 .top) (fun _ => []) (fun env _ => (iAt env 7, iAt env 8))
    (fun k => k.1 = 4 ∧ 0 ≤ k.2 ∧ k.2 ≤ 4 ∧ orI l = orI (l.drop k.2.toNat)) (fun k => 4 - k.2.toNat) ((Classical.choice ioEx).1.len es, 0) ?_ (.mt [] ?_) fun k hk Kn hKn => ?_
  · simp only [x_len, la]; simp
  · (cbv; repeat (refine ⟨rfl, ?_⟩; cbv))
  obtain ⟨n, k⟩ := k
  obtain ⟨hn4, hk0, hk1, hk2⟩ := hk
  dsimp only at hn4 hk0 hk1 hk2
  cbv
  refine brk (fun h => ?_) (fun h => ?_)
  · simp only [x_lt, hn4, decide_eq_true_eq] at h
    cbv
    refine .map hea hk0 (by (first | omega | ((try simp only [nc] at *); (try simp only [Int.ofNat_eq_natCast] at *); omega))) (fun _ => rfl) fun x hx => ?_
    have hd : l.drop k.toNat = x :: l.drop (k.toNat + 1) := by
      have hlt : k.toNat < l.length := (List.getElem?_eq_some_iff.1 hx).1
      rw [List.drop_eq_getElem_cons hlt, (List.getElem?_eq_some_iff.1 hx).2]
    rw [hd] at hk2
    cbv
    refine brk (fun h1 => ?_) (fun h1 => ?_)
    · simp only [x_not, x_eq, Bool.not_eq_true', decide_eq_false_iff_not] at h1
      cbv
      refine hK _ _ (inE ?_)
      rw [hl, hk2, orI, if_pos h1]
    · simp only [x_not, x_eq, Bool.not_eq_false', decide_eq_true_eq] at h1
      cbv
      refine hKn _ _ (.mt [] ?_) ?_ ?_
      · (cbv; repeat (refine ⟨rfl, ?_⟩; cbv))
      · simp only [iAt, geti, x_add]
        rw [wr64 (by (first | omega | ((try simp only [nc] at *); (try simp only [Int.ofNat_eq_natCast] at *); omega))) (by (first | omega | ((try simp only [nc] at *); (try simp only [Int.ofNat_eq_natCast] at *); omega))), toNat_succ hk0]
        exact ⟨hn4, by (first | omega | ((try simp only [nc] at *); (try simp only [Int.ofNat_eq_natCast] at *); omega)), by (first | omega | ((try simp only [nc] at *); (try simp only [Int.ofNat_eq_natCast] at *); omega)), by rw [hk2, orI, if_neg (by simpa using h1)]⟩
      · simp only [iAt, geti, x_add]
        rw [wr64 (by (first | omega | ((try simp only [nc] at *); (try simp only [Int.ofNat_eq_natCast] at *); omega))) (by (first | omega | ((try simp only [nc] at *); (try simp only [Int.ofNat_eq_natCast] at *); omega)))]
        (first | omega | ((try simp only [nc] at *); (try simp only [Int.ofNat_eq_natCast] at *); omega))
  · simp only [x_lt, hn4, decide_eq_false_iff_not] at h
    cbv
    refine hK _ _ (inE ?_)
    rw [hl, hk2, List.drop_eq_nil_of_le (by (first | omega | ((try simp only [nc] at *); (try simp only [Int.ofNat_eq_natCast] at *); omega)))]; rfl

def orderP (a b : Place) : Int := orI [cmpI a.level b.level, cmpI a.block b.block, cmpI a.row b.row, cmpI a.seat b.seat]
theorem orderR (p q : Place) (i j : Int) : Fn1 P 42 [p.at i, q.at j] (.i (orderP p q)) := by
  obtain ⟨kind, level, block, row, seat, x, y, view, wit⟩ := p
  obtain ⟨kind', level', block', row', seat', x', y', view', wit'⟩ := q
  refine .walk (hP ▸ d42_ok) fun K hK => ?_
  cbv
  refine .f1 (compare hP _ _) rfl rfl ?_
  generalize hc1 : cmpI level level' = c1
  cbv
  refine .f1 (compare hP _ _) rfl rfl ?_
  generalize hc2 : cmpI block block' = c2
  cbv
  refine .f1 (compare hP _ _) rfl rfl ?_
  generalize hc3 : cmpI row row' = c3
  cbv
  refine .f1 (compare hP _ _) rfl rfl ?_
  generalize hc4 : cmpI seat seat' = c4
  cbv
  refine .f1 (orR hP _ _ _ _) rfl rfl ?_
  generalize hc5 : orI [c1, c2, c3, c4] = c5
  cbv
  refine hK _ _ (inE ?_)
  rw [← hc5, orderP, ← hc1, ← hc2, ← hc3, ← hc4]

def Place.next (p : Place) : Place := { p with seat := IntKind.i64.wrap (p.seat + 1) }
theorem followsR (p q : Place) (i j : Int) : Fn1 P 34 [p.at i, q.at j] (.b (decide (orderP p q.next = 0))) := by
  obtain ⟨kind, level, block, row, seat, x, y, view, wit⟩ := p
  obtain ⟨kind', level', block', row', seat', x', y', view', wit'⟩ := q
  refine .walk (hP ▸ d34_ok) fun K hK => ?_
  cbv
  refine .f1 (orderR hP ⟨_, _, _, _, _, _, _, _, _⟩ ⟨_, _, _, _, _, _, _, _, _⟩ _ _) rfl rfl ?_
  generalize hc5 : orderP _ _ = c5
  cbv
  refine hK _ _ (biE ?_)
  simp only [x_eq, ← hc5, x_add]; rfl
end Go.SX.Runs
