/- Parts of the proof. -/
import Derived.Test.YtllbabjgpdmblaaZClP2
import Derived.Test.YtllbabjgpdmblaaZCl18
set_option linter.unusedSimpArgs false
set_option linter.unusedVariables false
namespace Go.SX.Cl
open Go Go.SX
structure JS where
 tog : Bool
 sing : Bool
 limit : Int
 price : Int
 fee : Ratio
 tax : Ratio
 cap : Ratio
 share : Ratio
 refund : Ratio
 priced : Bool
 sold : Bool
 back : Bool
 allowed : Int
 denied : Int
deriving DecidableEq
def one : Ratio := ⟨0, 1⟩
def J0 : JS := ⟨false, false, 0, 0, one, one, one, one, one, false, false, false, -1, -1⟩
def note (s : JS) (i : Int) (r : Rule) : JS :=
 if r.Kind = 1 then { s with allowed := if s.allowed < 0 then i else s.allowed, limit := if 0 < r.N ∧ (s.limit = 0 ∨ r.N < s.limit) then r.N else s.limit }
 else if r.Kind = 2 then { s with denied := if s.denied < 0 then i else s.denied }
 else if r.Kind = 3 then (if s.priced then s else { s with priced := true, price := r.N, fee := r.R, tax := r.S })
 else if r.Kind = 4 then (if s.sold then s else { s with sold := true, cap := r.R, share := r.S })
 else if r.Kind = 5 then (if s.back then s else { s with back := true, refund := r.R })
 else if r.Kind = 6 then { s with tog := true }
 else if r.Kind = 7 then { s with sing := true }
 else s
def stepJ (f : A10 Int) (s : JS × Nat) (r : Rule) : JS × Nat := (if holds r f then note s.1 s.2 r else s.1, s.2 + 1)
def finJ (s : JS) : Decision :=
 ⟨decide (0 ≤ s.allowed) && (s.priced && decide (s.denied < 0)), s.tog, s.sing, s.limit, s.price, s.fee, s.tax, s.cap, s.share, s.refund, if 0 ≤ s.denied then s.denied else s.allowed⟩
def decS (p : Policy) (f : A10 Int) : Decision := finJ (p.Rules.foldl (stepJ f) (J0, 0)).1
theorem stepJ_idx (f : A10 Int) : ∀ (l : List Rule) (s : JS × Nat), (l.foldl (stepJ f) s).2 = s.2 + l.length
 | [], _ => rfl
 | r :: l, s => by
   rw [List.foldl_cons, stepJ_idx f l]
   simp [stepJ]; omega
abbrev tupJ (s : JS) : Bool × Bool × Int × Int × Int × Int × Int × Int × Int × Int × Int × Int × Int × Int × Bool × Bool × Bool × Int × Int :=
 (s.tog, s.sing, s.limit, s.price, s.fee.Num, s.fee.Den, s.tax.Num, s.tax.Den, s.cap.Num, s.cap.Den, s.share.Num, s.share.Den, s.refund.Num, s.refund.Den, s.priced, s.sold, s.back, s.allowed, s.denied)
def mkJ (s : JS × Nat) (i : Int) : Bool × Bool × Int × Int × Int × Int × Int × Int × Int × Int × Int × Int × Int × Int × Bool × Bool × Bool × Int × Int × Int :=
 (s.1.tog, s.1.sing, s.1.limit, s.1.price, s.1.fee.Num, s.1.fee.Den, s.1.tax.Num, s.1.tax.Den, s.1.cap.Num, s.1.cap.Den, s.1.share.Num, s.1.share.Den, s.1.refund.Num, s.1.refund.Den, s.1.priced, s.1.sold, s.1.back, s.1.allowed, s.1.denied, i)
set_option maxHeartbeats 4000000 in
theorem Decide_eq (p : Policy) (f : A10 Int) (hp : p.Rules.length ≤ 1000000) (hz : ∀ r ∈ p.Rules, r.Zones.length ≤ 1000000) : decide_Decide_g p f = some (decS p f) := by
 unfold decide_Decide_g
 have key := loop_fold (step := decide_Decide_l2 p f) mkJ p.Rules (stepJ f) (J0, 0) (tupJ (p.Rules.foldl (stepJ f) (J0, 0)).1) (fun k x hx => by
   have hk : k < p.Rules.length := (List.getElem?_eq_some_iff.1 hx).1
   have hlt : (k : Int) < p.Rules.length := by omega
   have hidx : ((p.Rules.take k).foldl (stepJ f) (J0, 0)).2 = k := by rw [stepJ_idx]; simp; omega
   generalize hs : (p.Rules.take k).foldl (stepJ f) (J0, 0) = s at hidx
   obtain ⟨s, i⟩ := s
   simp only at hidx
   subst hidx
   have hh := Holds_eq x f (hz x (List.mem_of_getElem? hx))
   simp only [decide_Decide_l2, mkJ, io_lt, io_le, io_len, hlt, decide_true, cond_true, idxG_some hx, Option.bind_some, io_add, wr_up (k := i) (by omega), io_eqi, hh, io_not, stepJ, note]
   cases hx' : holds x f
   · by_cases k1 : x.Kind = 1
     · simp [k1]
     · by_cases k2 : x.Kind = 2
       · simp [k2]
       · by_cases k3 : x.Kind = 3
         · simp [k3]
         · by_cases k4 : x.Kind = 4
           · simp [k4]
           · by_cases k5 : x.Kind = 5
             · simp [k5]
             · by_cases k6 : x.Kind = 6
               · simp [k6]
               · by_cases k7 : x.Kind = 7
                 · simp [k7]
                 · simp [k1, k2, k3, k4, k5, k6, k7]
   · by_cases k1 : x.Kind = 1
     · by_cases a1 : s.allowed < 0 <;> by_cases a2 : 0 < x.N <;> by_cases a3 : s.limit = 0 <;> by_cases a4 : x.N < s.limit <;> simp [k1, a1, a2, a3, a4]
       all_goals (first | omega | (simp_all) )
     · by_cases k2 : x.Kind = 2
       · by_cases a1 : s.denied < 0 <;> simp [k2, a1]
       · by_cases k3 : x.Kind = 3
         · cases hs' : s.priced <;> simp [k3, hs']
         · by_cases k4 : x.Kind = 4
           · cases hs' : s.sold <;> simp [k4, hs']
           · by_cases k5 : x.Kind = 5
             · cases hs' : s.back <;> simp [k5, hs']
             · by_cases k6 : x.Kind = 6
               · simp [k6]
               · by_cases k7 : x.Kind = 7
                 · simp [k7]
                 · simp [k1, k2, k3, k4, k5, k6, k7]) (by simp [decide_Decide_l2, mkJ, io_lt, io_len])
 have h0 : mkJ (J0, 0) 0 = (false, false, 0, 0, 0, 1, 0, 1, 0, 1, 0, 1, 0, 1, false, false, false, -1, -1, 0) := rfl
 rw [h0] at key
 rw [key]
 unfold decS finJ
 generalize (p.Rules.foldl (stepJ f) (J0, 0)).1 = s
 simp only [tupJ, Option.bind_some, io_le, io_lt]
 by_cases h1 : 0 ≤ s.allowed <;> cases h2 : s.priced <;> by_cases h3 : 0 ≤ s.denied <;> simp [h1, h2, h3] <;> first | omega | rfl
end Go.SX.Cl
