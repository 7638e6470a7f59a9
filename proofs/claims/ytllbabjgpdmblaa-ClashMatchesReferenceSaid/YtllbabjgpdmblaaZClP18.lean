/- Parts of the proof. -/
import Derived.Test.YtllbabjgpdmblaaZClP9
import Derived.Test.YtllbabjgpdmblaaZClP3
import Derived.Test.YtllbabjgpdmblaaZCl58
import Derived.Test.YtllbabjgpdmblaaZCl31
import Derived.Test.YtllbabjgpdmblaaZCl59
import Derived.Laws.Strings
set_option linter.unusedSimpArgs false
set_option linter.unusedVariables false
namespace Go.SX.Cl
open Go Go.SX
theorem rHolds_inner (r : Rule) (f : A10 Int) (k : Nat) (z : A10 Range) (hz : r.Zones[k]? = some z) : whileG (ref13_Holds_l26 r k f) (true, 0) = some (inZ z f) := by
 obtain ⟨t, h1, h2⟩ := loop_up (step := ref13_Holds_l26 r k f) (fun (b : Bool) i => (b, i)) 10
   (fun j b => b = (List.range j).all fun i => decide ((z.get i).Lo ≤ f.get i) && decide (f.get i ≤ (z.get i).Hi)) (fun t => t = inZ z f) (fun j b hj hI => by
     have hlt : (j : Int) < 10 := by omega
     refine .inl ⟨b && (decide ((z.get j).Lo ≤ f.get j) && decide (f.get j ≤ (z.get j).Hi)), ?_, ?_⟩
     · simp only [ref13_Holds_l26, io_lt, hlt, decide_true, cond_true, idxG_some hz, pixG_some hj, Option.bind_some, io_le, io_add, wr_up (k := j) (by omega)]
       cases b with
       | false => simp
       | true =>
         by_cases h1 : (z.get j).Lo ≤ f.get j
         · simp [h1]
         · simp [h1]
     · rw [List.range_succ, List.all_append, ← hI]; simp) (fun b hI => ⟨b, by simp [ref13_Holds_l26, io_lt], by rw [hI]; rfl⟩) true (by simp)
 rw [h1, h2]
theorem rHolds_eq (r : Rule) (f : A10 Int) (hz : r.Zones.length ≤ 1000000) : ref13_Holds_g r f = some (holds r f) := by
 unfold ref13_Holds_g
 rw [loop_any (step := ref13_Holds_l22 r f) r.Zones (fun z => inZ z f) (.inr true) (.inl ()) (fun k x hx => by
   have hk : k < r.Zones.length := (List.getElem?_eq_some_iff.1 hx).1
   have hlt : (k : Int) < r.Zones.length := by omega
   simp only [ref13_Holds_l22, io_lt, io_len, hlt, decide_true, cond_true, rHolds_inner r f k x hx, Option.bind_some, io_add, wr_up (k := k) (by omega)]
   cases inZ x f <;> simp [orR]) (by simp [ref13_Holds_l22, io_lt, io_len])]
 show orR (some (if holds r f then .inr true else .inl ())) _ = _
 cases holds r f <;> rfl
def fi (q : Rule → Bool) (s : Option (Nat × Rule) × Nat) (x : Rule) : Option (Nat × Rule) × Nat :=
 (match s.1 with | some a => some a | none => if q x then some (s.2, x) else none, s.2 + 1)
def fiI : Option (Nat × Rule) → Int
 | some a => a.1
 | none => -1
theorem fi_some (q : Rule → Bool) (a : Nat × Rule) : ∀ (l : List Rule) (n : Nat), (l.foldl (fi q) (some a, n)).1 = some a
 | [], _ => rfl
 | x :: l, n => by rw [List.foldl_cons]; exact fi_some q a l (n + 1)
theorem fi_first (q : Rule → Bool) : ∀ (l : List Rule) (n k : Nat) (x : Rule), l[k]? = some x → q x = true → (∀ (j : Nat) y, j < k → l[j]? = some y → q y = false) → (l.foldl (fi q) (none, n)).1 = some (n + k, x)
 | [], _, _, _, h, _, _ => by simp at h
 | y :: l, n, 0, x, h, hq, _ => by
   simp only [List.getElem?_cons_zero, Option.some.injEq] at h
   subst h
   rw [List.foldl_cons]
   simp only [fi, hq, if_true, Nat.add_zero]
   exact fi_some q _ l _
 | y :: l, n, k + 1, x, h, hq, hl => by
   simp only [List.getElem?_cons_succ] at h
   have h0 := hl 0 y (by omega) rfl
   rw [List.foldl_cons]
   simp only [fi, h0, Bool.false_eq_true, if_false]
   have := fi_first q l (n + 1) k x h hq (fun j z hj hz => hl (j + 1) z (by omega) (by simpa using hz))
   rw [show fi q = fi q from rfl] at this
   rw [this]; congr 2; omega
theorem fi_none (q : Rule → Bool) : ∀ (l : List Rule) (n : Nat), (∀ x ∈ l, q x = false) → (l.foldl (fi q) (none, n)).1 = none
 | [], _, _ => rfl
 | y :: l, n, h => by
   rw [List.foldl_cons]
   simp only [fi, h y (by simp), Bool.false_eq_true, if_false]
   exact fi_none q l (n + 1) fun x hx => h x (by simp [hx])
def firstS (p : Policy) (kind : Int) (f : A10 Int) : Option (Nat × Rule) := (p.Rules.foldl (fi fun r => decide (r.Kind = kind) && holds r f) (none, 0)).1
theorem First_eq (p : Policy) (f : A10 Int) (kind : Int) (hp : p.Rules.length ≤ 1000000) (hz : ∀ r ∈ p.Rules, r.Zones.length ≤ 1000000) :
   ref13_First_g p f kind = some (fiI (firstS p kind f)) ∧ ∀ a, firstS p kind f = some a → p.Rules[a.1]? = some a.2 := by
 unfold ref13_First_g
 rcases loop_find (step := ref13_First_l2 p kind f) p.Rules (fun r => decide (r.Kind = kind) && holds r f) (fun k _ => .inr (k : Int)) (.inl ()) (fun k x hx => by
   have hk : k < p.Rules.length := (List.getElem?_eq_some_iff.1 hx).1
   have hlt : (k : Int) < p.Rules.length := by omega
   have hh := rHolds_eq x f (hz x (List.mem_of_getElem? hx))
   simp only [ref13_First_l2, io_lt, io_len, hlt, decide_true, cond_true, idxG_some hx, Option.bind_some, io_eqi, hh, io_add, wr_up (k := k) (by omega)]
   by_cases h1 : x.Kind = kind
   · cases hb : holds x f <;> simp [h1]
   · simp [h1]) (by simp [ref13_First_l2, io_lt, io_len]) with ⟨k, x, h1, h2, h3, h4⟩ | ⟨h1, h2⟩
 · have := fi_first _ p.Rules 0 k x h1 h2 h3
   rw [Nat.zero_add] at this
   refine ⟨?_, fun a ha => ?_⟩
   · rw [h4]; unfold firstS; rw [this]; rfl
   · unfold firstS at ha; rw [this] at ha; cases ha; exact h1
 · have := fi_none _ p.Rules 0 h1
   refine ⟨?_, fun a ha => ?_⟩
   · rw [h2]; unfold firstS; rw [this]; rfl
   · unfold firstS at ha; rw [this] at ha; cases ha
def limStep (f : A10 Int) (s : Int) (r : Rule) : Int := if r.Kind = 1 ∧ holds r f = true ∧ 0 < r.N ∧ (s = 0 ∨ r.N < s) then r.N else s
def pickR {α : Type} (g : Rule → α) (d : α) : Option (Nat × Rule) → α
 | some a => g a.2
 | none => d
structure Par (s : JS) (s1 s2 s3 s4 s5 s6 s7 : Option (Nat × Rule)) (l : Int) : Prop where
 allowed : s.allowed = fiI s1
 denied : s.denied = fiI s2
 tog : s.tog = s6.isSome
 sing : s.sing = s7.isSome
 limit : s.limit = l
 priced : s.priced = s3.isSome
 price : s.price = pickR (·.N) 0 s3
 fee : s.fee = pickR (·.R) one s3
 tax : s.tax = pickR (·.S) one s3
 sold : s.sold = s4.isSome
 cap : s.cap = pickR (·.R) one s4
 share : s.share = pickR (·.S) one s4
 back : s.back = s5.isSome
 refund : s.refund = pickR (·.R) one s5
abbrev qk (f : A10 Int) (k : Int) (r : Rule) : Bool := decide (r.Kind = k) && holds r f
theorem fi_ne {f : A10 Int} {k : Int} {r : Rule} (h : r.Kind ≠ k) (t : Option (Nat × Rule)) (n : Nat) : fi (qk f k) (t, n) r = (t, n + 1) := by
 cases t <;> simp [fi, h]
theorem fi_no {f : A10 Int} {k : Int} {r : Rule} (h : holds r f = false) (t : Option (Nat × Rule)) (n : Nat) : fi (qk f k) (t, n) r = (t, n + 1) := by
 cases t <;> simp [fi, h]
theorem fi_yes {f : A10 Int} {k : Int} {r : Rule} (h : r.Kind = k) (hh : holds r f = true) (t : Option (Nat × Rule)) (n : Nat) : fi (qk f k) (t, n) r = (t.or (some (n, r)), n + 1) := by
 cases t <;> simp [fi, h, hh]
theorem fiI_or (t : Option (Nat × Rule)) (n : Nat) (r : Rule) : fiI (t.or (some (n, r))) = if fiI t < 0 then (n : Int) else fiI t := by
 cases t with
 | none => simp [fiI]
 | some a =>
   have : ¬ fiI (some a) < 0 := by simp only [fiI]; omega
   rw [if_neg this]; rfl
theorem or_isSome (t : Option (Nat × Rule)) (n : Nat) (r : Rule) : (t.or (some (n, r))).isSome = true := by cases t <;> rfl
theorem lim_ne {f : A10 Int} {m : Int} {r : Rule} (h : r.Kind ≠ 1) : limStep f m r = m := by unfold limStep; rw [if_neg fun x => h x.1]
theorem lim_no {f : A10 Int} {m : Int} {r : Rule} (h : holds r f = false) : limStep f m r = m := by unfold limStep; rw [if_neg fun x => by rw [h] at x; exact absurd x.2.1 (by simp)]
theorem lim_yes {f : A10 Int} {m : Int} {r : Rule} (h : r.Kind = 1) (hh : holds r f = true) : limStep f m r = if 0 < r.N ∧ (m = 0 ∨ r.N < m) then r.N else m := by unfold limStep; simp only [h, hh, true_and]
theorem par_step (f : A10 Int) (r : Rule) (s : JS) (n : Nat) (s1 s2 s3 s4 s5 s6 s7 : Option (Nat × Rule)) (m : Int) (h : Par s s1 s2 s3 s4 s5 s6 s7 m) :
   stepJ f (s, n) r = ((stepJ f (s, n) r).1, n + 1) ∧
   Par (stepJ f (s, n) r).1 (fi (qk f 1) (s1, n) r).1 (fi (qk f 2) (s2, n) r).1 (fi (qk f 3) (s3, n) r).1 (fi (qk f 4) (s4, n) r).1 (fi (qk f 5) (s5, n) r).1 (fi (qk f 6) (s6, n) r).1 (fi (qk f 7) (s7, n) r).1 (limStep f m r) := by
 refine ⟨rfl, ?_⟩
 obtain ⟨a1, a2, a3, a4, a5, a6, a7, a8, a9, a10, a11, a12, a13, a14⟩ := h
 cases hh : holds r f with
 | false =>
   have hs : (stepJ f (s, n) r).1 = s := by simp [stepJ, hh]
   rw [hs, fi_no hh, fi_no hh, fi_no hh, fi_no hh, fi_no hh, fi_no hh, fi_no hh, lim_no hh]
   exact ⟨a1, a2, a3, a4, a5, a6, a7, a8, a9, a10, a11, a12, a13, a14⟩
 | true =>
   have hs : (stepJ f (s, n) r).1 = note s n r := by simp [stepJ, hh]
   rw [hs]
   unfold note
   by_cases k1 : r.Kind = 1
   · rw [if_pos k1, fi_yes k1 hh, fi_ne (by omega), fi_ne (by omega), fi_ne (by omega), fi_ne (by omega), fi_ne (by omega), fi_ne (by omega), lim_yes k1 hh]
     exact ⟨by show (if s.allowed < 0 then (n : Int) else s.allowed) = _; rw [fiI_or, a1], a2, a3, a4, by show (if 0 < r.N ∧ (s.limit = 0 ∨ r.N < s.limit) then r.N else s.limit) = _; rw [a5], a6, a7, a8, a9, a10, a11, a12, a13, a14⟩
   · rw [if_neg k1, fi_ne k1, lim_ne k1]
     by_cases k2 : r.Kind = 2
     · rw [if_pos k2, fi_yes k2 hh, fi_ne (by omega), fi_ne (by omega), fi_ne (by omega), fi_ne (by omega), fi_ne (by omega)]
       exact ⟨a1, by show (if s.denied < 0 then (n : Int) else s.denied) = _; rw [fiI_or, a2], a3, a4, a5, a6, a7, a8, a9, a10, a11, a12, a13, a14⟩
     · rw [if_neg k2, fi_ne k2]
       by_cases k3 : r.Kind = 3
       · rw [if_pos k3, fi_yes k3 hh, fi_ne (by omega), fi_ne (by omega), fi_ne (by omega), fi_ne (by omega)]
         cases s3 with
         | none =>
           rw [if_neg (by rw [a6]; simp)]
           exact ⟨a1, a2, a3, a4, a5, rfl, rfl, rfl, rfl, a10, a11, a12, a13, a14⟩
         | some a =>
           rw [if_pos (by rw [a6]; rfl)]
           exact ⟨a1, a2, a3, a4, a5, a6, a7, a8, a9, a10, a11, a12, a13, a14⟩
       · rw [if_neg k3, fi_ne k3]
         by_cases k4 : r.Kind = 4
         · rw [if_pos k4, fi_yes k4 hh, fi_ne (by omega), fi_ne (by omega), fi_ne (by omega)]
           cases s4 with
           | none =>
             rw [if_neg (by rw [a10]; simp)]
             exact ⟨a1, a2, a3, a4, a5, a6, a7, a8, a9, rfl, rfl, rfl, a13, a14⟩
           | some a =>
             rw [if_pos (by rw [a10]; rfl)]
             exact ⟨a1, a2, a3, a4, a5, a6, a7, a8, a9, a10, a11, a12, a13, a14⟩
         · rw [if_neg k4, fi_ne k4]
           by_cases k5 : r.Kind = 5
           · rw [if_pos k5, fi_yes k5 hh, fi_ne (by omega), fi_ne (by omega)]
             cases s5 with
             | none =>
               rw [if_neg (by rw [a13]; simp)]
               exact ⟨a1, a2, a3, a4, a5, a6, a7, a8, a9, a10, a11, a12, rfl, rfl⟩
             | some a =>
               rw [if_pos (by rw [a13]; rfl)]
               exact ⟨a1, a2, a3, a4, a5, a6, a7, a8, a9, a10, a11, a12, a13, a14⟩
           · rw [if_neg k5, fi_ne k5]
             by_cases k6 : r.Kind = 6
             · rw [if_pos k6, fi_yes k6 hh, fi_ne (by omega)]
               exact ⟨a1, a2, (or_isSome _ _ _).symm, a4, a5, a6, a7, a8, a9, a10, a11, a12, a13, a14⟩
             · rw [if_neg k6, fi_ne k6]
               by_cases k7 : r.Kind = 7
               · rw [if_pos k7, fi_yes k7 hh]
                 exact ⟨a1, a2, a3, (or_isSome _ _ _).symm, a5, a6, a7, a8, a9, a10, a11, a12, a13, a14⟩
               · rw [if_neg k7, fi_ne k7]
                 exact ⟨a1, a2, a3, a4, a5, a6, a7, a8, a9, a10, a11, a12, a13, a14⟩
theorem par_fold (f : A10 Int) : ∀ (l : List Rule) (s : JS) (n : Nat) (s1 s2 s3 s4 s5 s6 s7 : Option (Nat × Rule)) (m : Int), Par s s1 s2 s3 s4 s5 s6 s7 m →
   Par (l.foldl (stepJ f) (s, n)).1 (l.foldl (fi (qk f 1)) (s1, n)).1 (l.foldl (fi (qk f 2)) (s2, n)).1 (l.foldl (fi (qk f 3)) (s3, n)).1 (l.foldl (fi (qk f 4)) (s4, n)).1 (l.foldl (fi (qk f 5)) (s5, n)).1 (l.foldl (fi (qk f 6)) (s6, n)).1 (l.foldl (fi (qk f 7)) (s7, n)).1 (l.foldl (limStep f) m)
 | [], _, _, _, _, _, _, _, _, _, _, h => h
 | r :: l, s, n, s1, s2, s3, s4, s5, s6, s7, m, h => by
   have h' := (par_step f r s n s1 s2 s3 s4 s5 s6 s7 m h).2
   simp only [List.foldl_cons]
   exact par_fold f l _ (n + 1) _ _ _ _ _ _ _ _ h'
theorem rlimit_eq (p : Policy) (f : A10 Int) (hp : p.Rules.length ≤ 1000000) (hz : ∀ r ∈ p.Rules, r.Zones.length ≤ 1000000) :
   whileG (ref13_Decide_l2 p f) (0, 0) = some (p.Rules.foldl (limStep f) 0) := by
 exact loop_fold (step := ref13_Decide_l2 p f) (fun (s : Int) i => (s, i)) p.Rules (limStep f) 0 _ (fun k x hx => by
   have hk : k < p.Rules.length := (List.getElem?_eq_some_iff.1 hx).1
   have hlt : (k : Int) < p.Rules.length := by omega
   have hh := rHolds_eq x f (hz x (List.mem_of_getElem? hx))
   generalize (p.Rules.take k).foldl (limStep f) 0 = s
   simp only [ref13_Decide_l2, io_lt, io_len, hlt, decide_true, cond_true, idxG_some hx, Option.bind_some, io_eqi, hh, io_add, wr_up (k := k) (by omega), limStep]
   by_cases h1 : x.Kind = 1 <;> cases hb : holds x f <;> by_cases h2 : 0 < x.N <;> by_cases h3 : s = 0 <;> by_cases h4 : x.N < s <;> simp [h1, h2, h3, h4]
   all_goals (first | omega | simp_all)) (by simp [ref13_Decide_l2, io_lt, io_len])
theorem fiI_ge (s : Option (Nat × Rule)) : decide (0 ≤ fiI s) = s.isSome := by
 cases s with
 | none => rfl
 | some a => simp [fiI]
set_option maxHeartbeats 1000000 in
theorem rDecide_eq (p : Policy) (f : A10 Int) (hp : p.Rules.length ≤ 1000000) (hz : ∀ r ∈ p.Rules, r.Zones.length ≤ 1000000) : ref13_Decide_g p f = some (decS p f) := by
 have F := fun k => First_eq p f k hp hz
 have P := par_fold f p.Rules J0 0 none none none none none none none 0 ⟨rfl, rfl, rfl, rfl, rfl, rfl, rfl, rfl, rfl, rfl, rfl, rfl, rfl, rfl⟩
 unfold ref13_Decide_g
 simp only [(F _).1, Option.bind_some, rlimit_eq p f hp hz]
 have h3 := (F 3).2
 have h4 := (F 4).2
 have h5 := (F 5).2
 unfold decS finJ
 have E : ∀ k, (p.Rules.foldl (fi (qk f k)) (none, 0)).1 = firstS p k f := fun k => rfl
 simp only [E] at P
 generalize (p.Rules.foldl (stepJ f) (J0, 0)).1 = s at P
 generalize firstS p 1 f = s1 at P
 generalize firstS p 2 f = s2 at P
 generalize firstS p 3 f = s3 at P h3
 generalize firstS p 4 f = s4 at P h4
 generalize firstS p 5 f = s5 at P h5
 generalize firstS p 6 f = s6 at P
 generalize firstS p 7 f = s7 at P
 generalize p.Rules.foldl (limStep f) 0 = m at P
 obtain ⟨a1, a2, a3, a4, a5, a6, a7, a8, a9, a10, a11, a12, a13, a14⟩ := P
 rw [a1, a2, a3, a4, a5, a6, a7, a8, a9, a11, a12, a14]
 have i1 := fiI_ge s1
 have i2 := fiI_ge s2
 have i3 := fiI_ge s3
 have i4 := fiI_ge s4
 have i5 := fiI_ge s5
 have i6 := fiI_ge s6
 have i7 := fiI_ge s7
 have n2 : decide (fiI s2 < 0) = s2.isNone := by
   cases s2 with
   | none => rfl
   | some a =>
     have : ¬ fiI (some a) < 0 := by simp only [fiI]; omega
     simp [this]
 simp only [io_le, io_lt, i1, i2, i3, i4, i5, i6, i7, n2]
 have e2 : (if 0 ≤ fiI s2 then fiI s2 else fiI s1) = (if s2.isSome then fiI s2 else fiI s1) := by rw [← i2]; simp
 rw [e2]
 cases s3 with
 | none =>
   cases s4 with
   | none => cases s5 with
     | none => cases s1 <;> cases s2 <;> rfl
     | some c =>
       have := idxG_some (h5 c rfl)
       simp only [fiI, this, Option.isSome_some, cond_true, Option.bind_some]
       cases s1 <;> cases s2 <;> rfl
   | some b =>
     have hb := idxG_some (h4 b rfl)
     cases s5 with
     | none =>
       simp only [fiI, hb, Option.isSome_some, cond_true, Option.bind_some]
       cases s1 <;> cases s2 <;> rfl
     | some c =>
       have := idxG_some (h5 c rfl)
       simp only [fiI, hb, this, Option.isSome_some, cond_true, Option.bind_some]
       cases s1 <;> cases s2 <;> rfl
 | some a =>
   have ha := idxG_some (h3 a rfl)
   cases s4 with
   | none => cases s5 with
     | none =>
       simp only [fiI, ha, Option.isSome_some, cond_true, Option.bind_some]
       cases s1 <;> cases s2 <;> rfl
     | some c =>
       have := idxG_some (h5 c rfl)
       simp only [fiI, ha, this, Option.isSome_some, cond_true, Option.bind_some]
       cases s1 <;> cases s2 <;> rfl
   | some b =>
     have hb := idxG_some (h4 b rfl)
     cases s5 with
     | none =>
       simp only [fiI, ha, hb, Option.isSome_some, cond_true, Option.bind_some]
       cases s1 <;> cases s2 <;> rfl
     | some c =>
       have := idxG_some (h5 c rfl)
       simp only [fiI, ha, hb, this, Option.isSome_some, cond_true, Option.bind_some]
       cases s1 <;> cases s2 <;> rfl
end Go.SX.Cl
namespace Go.SX.Cl
open Go Go.SX
theorem rnumbers_eq (r : Rule) : ref13_numbers_g r = some (numbersB r) := by
 unfold ref13_numbers_g numbersB ratioB
 simp only [io_eqi, io_le, io_mul]
 by_cases h1 : r.Kind = 1
 · simp only [h1, decide_true, cond_true, if_true, bif_and]
 · by_cases h3 : r.Kind = 3
   · simp only [h3, show ¬ ((3 : Int) = 1) by omega, decide_false, cond_false, decide_true, cond_true, if_true, if_false, bif_and, Bool.and_assoc]
   · by_cases h4 : r.Kind = 4
     · simp only [h4, show ¬ ((4 : Int) = 1) by omega, show ¬ ((4 : Int) = 3) by omega, decide_false, cond_false, decide_true, cond_true, if_true, if_false, bif_and, Bool.and_assoc]
     · by_cases h5 : r.Kind = 5
       · simp only [h5, show ¬ ((5 : Int) = 1) by omega, show ¬ ((5 : Int) = 3) by omega, show ¬ ((5 : Int) = 4) by omega, decide_false, cond_false, decide_true, cond_true, if_true, if_false, bif_and]
       · simp only [h1, h3, h4, h5, decide_false, cond_false, if_false]
         by_cases h2 : r.Kind = 2
         · simp [h2]
         · by_cases h6 : r.Kind = 6
           · simp [h6]
           · by_cases h7 : r.Kind = 7
             · simp [h7]
             · simp [h2, h6, h7]
theorem rzone_eq (x : Rule) (k : Nat) (z : A10 Range) (hz : x.Zones[k]? = some z) : whileG (ref13_Valid_l181 x k limZ) 0 = some (if withinZ z then .inl () else .inr (.inr (.inr (.inr (.inr (.inr false)))))) := by
 rw [loop_all (step := ref13_Valid_l181 x k limZ) 10 (fun i => !(decide ((z.get i).Lo ≤ (z.get i).Hi) && (decide ((limZ.get i).Lo ≤ (z.get i).Lo) && decide ((z.get i).Hi ≤ (limZ.get i).Hi)))) (.inr (.inr (.inr (.inr (.inr (.inr false)))))) (.inl ()) (fun i hi => ?_) (by simp [ref13_Valid_l181, io_lt])]
 · rw [withinZ_any]
   cases withinZ z <;> rfl
 · have h10 : (i : Int) < 10 := by omega
   simp only [ref13_Valid_l181, io_lt, h10, decide_true, cond_true, idxG_some hz, pixG_some hi, Option.bind_some, io_add, wr_up (k := i) (by omega)]
   by_cases h1 : (z.get i).Hi < (z.get i).Lo
   · have h1' : ¬ (z.get i).Lo ≤ (z.get i).Hi := by omega
     simp [h1, h1']
   · have h1' : (z.get i).Lo ≤ (z.get i).Hi := by omega
     by_cases h2 : (z.get i).Lo < (limZ.get i).Lo
     · have h2' : ¬ (limZ.get i).Lo ≤ (z.get i).Lo := by omega
       simp [h1, h1', h2, h2']
     · have h2' : (limZ.get i).Lo ≤ (z.get i).Lo := by omega
       by_cases h3 : (limZ.get i).Hi < (z.get i).Hi
       · have h3' : ¬ (z.get i).Hi ≤ (limZ.get i).Hi := by omega
         simp [h1, h1', h2, h2', h3, h3']
       · have h3' : (z.get i).Hi ≤ (limZ.get i).Hi := by omega
         simp [h1, h1', h2, h2', h3, h3']
theorem rzones_eq (x : Rule) (hx : x.Zones.length ≤ 200) : whileG (ref13_Valid_l179 x limZ) 0 = some (if x.Zones.all withinZ then .inl () else .inr (.inr (.inr (.inr false)))) := by
 rw [loop_any (step := ref13_Valid_l179 x limZ) x.Zones (fun z => !withinZ z) (.inr (.inr (.inr (.inr false)))) (.inl ()) (fun k z hz => ?_) (by simp [ref13_Valid_l179, io_lt, io_len])]
 · rw [← List.not_all_eq_any_not]
   cases x.Zones.all withinZ <;> rfl
 · have hk : k < x.Zones.length := (List.getElem?_eq_some_iff.1 hz).1
   have hlt : (k : Int) < x.Zones.length := by omega
   simp only [ref13_Valid_l179, io_lt, io_len, hlt, decide_true, cond_true, rzone_eq x k z hz, io_add, wr_up (k := k) (by omega)]
   cases withinZ z <;> rfl
theorem seq_dec (a b : ByteArray) : io.seq a b = decide (a = b) := by
 rw [io_seq]
 by_cases h : a = b
 · simp [h]
 · have hne : ¬ a.toList = b.toList := by
     intro e
     rw [ByteArray.toList_eq, ByteArray.toList_eq] at e
     exact h (ByteArray.ext (Array.toList_inj.mp e))
   rw [decide_eq_false h]
   exact beq_eq_false_iff_ne.2 hne
theorem rnames_eq (p : Policy) (x : Rule) (i : Nat) (hi : i ≤ p.Rules.length) (hl : i ≤ 1000000) : whileG (ref13_Valid_l182 i p x) 0 = some (if (p.Rules.take i).any (fun q => decide (q.Name = x.Name)) then .inr (.inr (.inr false)) else .inl ()) := by
 have hlen : (p.Rules.take i).length = i := by simp; omega
 rw [loop_any (step := ref13_Valid_l182 i p x) (p.Rules.take i) (fun q => decide (q.Name = x.Name)) (.inr (.inr (.inr false))) (.inl ()) (fun k q hq => ?_) (by rw [hlen]; simp [ref13_Valid_l182, io_lt])]
 have hk : k < i := by have := (List.getElem?_eq_some_iff.1 hq).1; omega
 have hlt : (k : Int) < (i : Int) := by omega
 have hq' : p.Rules[k]? = some q := by rw [List.getElem?_take] at hq; rw [if_pos hk] at hq; exact hq
 simp only [ref13_Valid_l182, io_lt, hlt, decide_true, cond_true, idxG_some hq', Option.bind_some, seq_dec, io_add, wr_up (k := k) (by omega)]
 by_cases h : q.Name = x.Name <;> simp [h]
theorem rValid_eq (p : Policy) : ref13_Valid_g p = some (validB p) := by
 unfold ref13_Valid_g
 simp only [io_lt, io_len]
 by_cases hl : p.Rules.length ≤ 200
 · have hl' : ¬ ((200 : Int) < p.Rules.length) := by omega
   simp only [hl', decide_false, cond_false, refLimits_eq, Option.bind_some]
   rw [loop_all (step := ref13_Valid_l152 p limZ) p.Rules.length (fun k => match p.Rules[k]? with | some r => !fineAt p k r | none => false) (.inr false) (.inl ()) (fun k hk => ?_) (by simp [ref13_Valid_l152, io_lt, io_len])]
   · have hv : (List.range p.Rules.length).any (fun k => match p.Rules[k]? with | some r => !fineAt p k r | none => false) = !validB p := by
       cases hv : validB p with
       | true =>
         rw [Bool.not_true, List.any_eq_false]
         intro k _
         cases hr : p.Rules[k]? with
         | none => simp
         | some r => simp [valid_all hv hr]
       | false =>
         rw [Bool.not_false]
         cases hany : (List.range p.Rules.length).any (fun k => match p.Rules[k]? with | some r => !fineAt p k r | none => false) with
         | true => rfl
         | false =>
           rw [List.any_eq_false] at hany
           rw [valid_of hl fun k r hr => by
             have := hany k (List.mem_range.2 (List.getElem?_eq_some_iff.1 hr).1)
             rw [hr] at this
             simpa using this] at hv
           cases hv
     rw [hv]
     cases validB p <;> rfl
   · have hlt : (k : Int) < p.Rules.length := by omega
     have hx : p.Rules[k]? = some p.Rules[k] := by simp [hk]
     generalize p.Rules[k] = x at hx
     simp only [ref13_Valid_l152, io_lt, io_len, hlt, decide_true, cond_true, hx, idxG_some hx, Option.bind_some, rnumbers_eq, io_not, io_add, wr_up (k := k) (by omega), fineAt]
     cases hn : numbersB x with
     | false => rfl
     | true =>
       by_cases hz : x.Zones.length ≤ 200
       · have hz' : ¬ ((200 : Int) < x.Zones.length) := by omega
         simp only [Bool.not_true, cond_false, hz', decide_false, Option.bind_some, rzones_eq x hz, hz, decide_true, Bool.true_and]
         cases hw : x.Zones.all withinZ with
         | false => rfl
         | true =>
           simp only [if_true, Bool.true_and, Bool.not_not]
           rw [show orR (some (Sum.inl () : Unit ⊕ (Unit ⊕ (Int ⊕ (Unit ⊕ Bool))))) (fun _ => whileG (ref13_Valid_l182 (k : Int) p x) 0) = whileG (ref13_Valid_l182 (k : Int) p x) 0 from rfl, rnames_eq p x k (by omega) (by omega)]
           cases (p.Rules.take k).any (fun q => decide (q.Name = x.Name)) <;> rfl
       · have hz' : (200 : Int) < x.Zones.length := by omega
         simp [hz', hz, orR]
 · have hl' : (200 : Int) < p.Rules.length := by omega
   simp only [hl', decide_true, cond_true]
   simp [validB, hl]
end Go.SX.Cl
