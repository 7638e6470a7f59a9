/-
  Runs: the small functions.
-/
import Derived.Test.YtlahdopmiplnoaaXSxS
import Derived.Test.YtlahdopmiplnoaaXCode
namespace Go.SX.Runs
open Go Go.Proofs

structure Place where
  (kind level block row seat x y view wit : Int)
@[reducible] def dv (n : Int) : D := .val (.int .i64 n)
def Place.ds (p : Place) : List D := [dv p.kind, dv p.level, dv p.block, dv p.row, dv p.seat, dv p.x, dv p.y, dv p.view, dv p.wit]
@[reducible] def Place.sv (p : Place) : SV := .agg [.i p.kind, .i p.level, .i p.block, .i p.row, .i p.seat, .i p.x, .i p.y, .i p.view, .i p.wit]
@[reducible] def Place.at (p : Place) (i : Int) : SV := .agg [.i p.kind, .i p.level, .i p.block, .i p.row, .i p.seat, .i p.x, .i p.y, .i p.view, .i p.wit, .i i]
variable {P : Program} (hP : P = Try.prog)
include hP
theorem isNaN (x : Int) : Fn1 P 53 [.i x] (.b false) := by
  refine .walk (hP ▸ d53_ok) fun K hK => ?_
  cbv
  refine hK _ _ ?_
  simp only [x_not, x_eq, decide_true, Bool.not_true]

def cmpI (x y : Int) : Int := if x < y then -1 else if y < x then 1 else 0
theorem compare (x y : Int) : Fn1 P 49 [.i x, .i y] (.i (cmpI x y)) := by
  refine .walk (hP ▸ d49_ok) fun K hK => ?_
  cbv
  refine .f1 (isNaN hP _) rfl rfl ?_
  cbv
  refine .f1 (isNaN hP _) rfl rfl ?_
  cbv
  refine brk (fun h => ?_) (fun h => ?_)
  · cbv
    refine hK _ _ ?_
    simp only [x_lt, decide_eq_true_eq] at h
    simp only [cmpI, h, if_true]
  cbv
  refine brk (fun k => ?_) (fun k => ?_)
  · cbv
    refine hK _ _ ?_
    simp only [x_lt, decide_eq_true_eq, decide_eq_false_iff_not] at h k
    simp only [cmpI, h, k, if_true, if_false]
  · cbv
    refine hK _ _ ?_
    simp only [x_lt, decide_eq_true_eq, decide_eq_false_iff_not] at h k
    simp only [cmpI, h, k, if_false]

theorem seatR (p : Place) : Fn1 P 24 [p.sv] (.b (decide (0 ≤ p.row))) := by
  obtain ⟨kind, level, block, row, seat, x, y, view, wit⟩ := p
  refine .walk (hP ▸ d24_ok) fun K hK => ?_
  cbv
  refine hK _ _ ?_
  simp only [x_le]

def nextP (a b : Place) : Bool := decide (0 ≤ a.row) && (decide (a.level = b.level) && (decide (a.block = b.block) && (decide (a.row = b.row) && (decide (a.seat < b.seat) && decide (b.seat = IntKind.i64.wrap (a.seat + 1))))))
theorem nextR (p q : Place) : Fn1 P 23 [p.sv, q.sv] (.b (nextP p q)) := by
  obtain ⟨kind, level, block, row, seat, x, y, view, wit⟩ := p
  obtain ⟨kind', level', block', row', seat', x', y', view', wit'⟩ := q
  refine .walk (hP ▸ d23_ok) fun K hK => ?_
  cbv
  repeat' (refine brk (fun _ => ?_) (fun _ => ?_) <;> cbv)
  all_goals
    refine hK _ _ ?_
    simp_all only [x_le, x_eq, x_lt, x_add, nextP, decide_true, decide_false, Bool.true_and, Bool.false_and, decide_eq_true_eq, decide_eq_false_iff_not]
end Go.SX.Runs
