/- Parts of the proof. -/
import Derived.Test.YtllbabjgpdmblaaZClP10
import Derived.Test.YtllbabjgpdmblaaZCl48
import Derived.Test.YtllbabjgpdmblaaZClT
set_option linter.unusedSimpArgs false
set_option linter.unusedVariables false
namespace Go.SX.Cl
open Go Go.SX Go.SX.ClP
def putL : List Int → Int → List Int
 | [], n => [n]
 | x :: l, n => if x < n then x :: putL l n else if x = n then x :: l else n :: x :: l
def before (l : List Int) (n : Int) : Nat := (l.takeWhile fun x => decide (x < n)).length
theorem before_le (l : List Int) (n : Int) : before l n ≤ l.length := (List.takeWhile_sublist _).length_le
theorem before_lt {l : List Int} {n : Int} {j : Nat} (h : j < before l n) : ∃ x, l[j]? = some x ∧ x < n := by
 unfold before at h
 have h1 : (l.takeWhile fun x => decide (x < n))[j]? = some (l.takeWhile fun x => decide (x < n))[j] := List.getElem?_eq_getElem h
 have hp := List.takeWhile_prefix (l := l) fun x => decide (x < n)
 obtain ⟨t, ht⟩ := hp
 refine ⟨_, ?_, by simpa using List.all_eq_true.1 (List.all_takeWhile (p := fun x => decide (x < n)) (l := l)) _ (List.getElem_mem h)⟩
 have h2 : (l.takeWhile (fun x => decide (x < n)) ++ t)[j]? = some (l.takeWhile fun x => decide (x < n))[j] := by rw [List.getElem?_append_left h]; exact h1
 rwa [ht] at h2
theorem before_at {l : List Int} {n : Int} {x : Int} (h : l[before l n]? = some x) : ¬ x < n := by
 induction l with
 | nil => simp at h
 | cons y l ih =>
   unfold before at h ih
   rw [List.takeWhile_cons] at h
   by_cases hy : y < n
   · simp only [hy, decide_true, if_true, List.length_cons, List.getElem?_cons_succ] at h
     exact ih h
   · simp only [hy, decide_false, Bool.false_eq_true, if_false, List.length_nil, List.getElem?_cons_zero, Option.some.injEq] at h
     subst h; exact hy
theorem putL_eq (l : List Int) (n : Int) : putL l n = if l[before l n]? = some n then l else l.take (before l n) ++ [n] ++ l.drop (before l n) := by
 induction l with
 | nil => simp [putL, before]
 | cons y l ih =>
   rw [putL]
   by_cases hy : y < n
   · have hb : before (y :: l) n = before l n + 1 := by unfold before; rw [List.takeWhile_cons]; simp [hy]
     rw [if_pos hy, ih, hb]
     simp only [List.getElem?_cons_succ]
     split
     · rfl
     · simp
   · have hb : before (y :: l) n = 0 := by unfold before; rw [List.takeWhile_cons]; simp [hy]
     rw [if_neg hy, hb]
     by_cases he : y = n
     · simp [he]
     · simp [he]
theorem mem_putL {l : List Int} {n c : Int} : c ∈ putL l n ↔ c = n ∨ c ∈ l := by
 induction l with
 | nil => simp [putL]
 | cons y l ih =>
   rw [putL]
   split
   · rw [List.mem_cons, ih, List.mem_cons]
     constructor
     · rintro (h | h | h) <;> simp [h]
     · rintro (h | h | h) <;> simp [h]
   · split
     · rename_i h; subst h
       rw [List.mem_cons]
       constructor
       · rintro (h | h) <;> simp [h]
       · rintro (h | h | h) <;> simp [h]
     · simp
theorem putL_sorted {l : List Int} {n : Int} (h : l.Pairwise (· < ·)) : (putL l n).Pairwise (· < ·) := by
 induction l with
 | nil => simp [putL]
 | cons y l ih =>
   obtain ⟨h1, h2⟩ := List.pairwise_cons.1 h
   rw [putL]
   split
   · rename_i hy
     refine List.pairwise_cons.2 ⟨fun c hc => ?_, ih h2⟩
     rcases mem_putL.1 hc with rfl | hc
     · exact hy
     · exact h1 c hc
   · split
     · exact h
     · rename_i hy hne
       refine List.pairwise_cons.2 ⟨fun c hc => ?_, h⟩
       rcases List.mem_cons.1 hc with rfl | hc
       · omega
       · have := h1 c hc; omega
theorem putL_len (l : List Int) (n : Int) : (putL l n).length ≤ l.length + 1 := by
 induction l with
 | nil => simp [putL]
 | cons y l ih =>
   rw [putL]
   split
   · simp only [List.length_cons]; omega
   · split <;> simp
theorem before_loop {step : Int → Option (Int ⊕ Int)} (l : List Int) (n : Int) (hl : l.length ≤ 1000000)
   (hs : ∀ (k : Nat) x, l[k]? = some x → step k = some (if x < n then .inl ((k + 1 : Nat) : Int) else .inr (k : Int))) (he : step l.length = some (.inr (l.length : Int))) : whileG step 0 = some ((before l n : Nat) : Int) := by
 obtain ⟨t, h1, h2⟩ := loop_up (step := step) (fun (_ : Unit) i => i) l.length (fun k _ => k ≤ before l n) (fun t => t = ((before l n : Nat) : Int)) (fun k _ hk hI => by
   have hx : l[k]? = some l[k] := by simp [hk]
   rcases Nat.lt_or_eq_of_le hI with h | h
   · obtain ⟨x, hx', hxn⟩ := before_lt h
     rw [hx] at hx'; cases hx'
     exact .inl ⟨(), by rw [hs k _ hx, if_pos hxn], h⟩
   · have hn : ¬ l[k] < n := before_at (by rw [← h]; exact hx)
     exact .inr ⟨_, by rw [hs k _ hx, if_neg hn], by rw [h]⟩) (fun _ hI => ⟨_, he, by have := before_le l n; congr 1; omega⟩) () (Nat.zero_le _)
 rw [h1, h2]
def addZ (a : Nat) (out : List Int) (z : A10 Range) : List Int :=
 if (z.get a).Hi < (limZ.get a).Hi then putL (putL out (z.get a).Lo) ((z.get a).Hi + 1) else putL out (z.get a).Lo
def startsS (p : Policy) (a : Nat) : List Int := p.Rules.foldl (fun out r => r.Zones.foldl (addZ a) out) [(limZ.get a).Lo]
theorem addZ_len (a : Nat) (out : List Int) (z : A10 Range) : (addZ a out z).length ≤ out.length + 2 := by
 unfold addZ
 have h1 := putL_len out (z.get a).Lo
 split
 · have h2 := putL_len (putL out (z.get a).Lo) ((z.get a).Hi + 1); omega
 · omega
theorem addZs_len (a : Nat) : ∀ (l : List (A10 Range)) (out : List Int), (l.foldl (addZ a) out).length ≤ out.length + 2 * l.length
 | [], out => by simp
 | z :: l, out => by
   rw [List.foldl_cons]
   have h1 := addZs_len a l (addZ a out z)
   have h2 := addZ_len a out z
   simp only [List.length_cons]; omega
theorem addRs_len (a m : Nat) : ∀ (l : List Rule) (out : List Int), (∀ r ∈ l, r.Zones.length ≤ m) → (l.foldl (fun out r => r.Zones.foldl (addZ a) out) out).length ≤ out.length + l.length * (2 * m)
 | [], out, _ => by simp
 | r :: l, out, h => by
   rw [List.foldl_cons]
   have h1 := addRs_len a m l (r.Zones.foldl (addZ a) out) (fun r hr => h r (List.mem_cons_of_mem _ hr))
   have h2 := addZs_len a r.Zones out
   have h3 := h r (by simp)
   have h4 : (l.length + 1) * (2 * m) = l.length * (2 * m) + 2 * m := Nat.succ_mul _ _
   simp only [List.length_cons, h4]; omega
theorem mem_addZs (a : Nat) (c : Int) : ∀ (l : List (A10 Range)) (out : List Int), c ∈ l.foldl (addZ a) out ↔ c ∈ out ∨ ∃ z ∈ l, c = (z.get a).Lo ∨ ((z.get a).Hi < (limZ.get a).Hi ∧ c = (z.get a).Hi + 1)
 | [], out => by simp
 | z :: l, out => by
   rw [List.foldl_cons, mem_addZs a c l]
   have : c ∈ addZ a out z ↔ c ∈ out ∨ (c = (z.get a).Lo ∨ ((z.get a).Hi < (limZ.get a).Hi ∧ c = (z.get a).Hi + 1)) := by
     unfold addZ
     split
     · rename_i h
       rw [mem_putL, mem_putL]
       constructor
       · rintro (h' | h' | h') <;> simp [h', h]
       · rintro (h' | h' | h')
         · simp [h']
         · simp [h']
         · simp [h'.2]
     · rename_i h
       rw [mem_putL]
       constructor
       · rintro (h' | h') <;> simp [h']
       · rintro (h' | h' | h')
         · simp [h']
         · simp [h']
         · exact (h h'.1).elim
   rw [this]
   simp only [List.mem_cons, exists_eq_or_imp, or_assoc]
theorem mem_addRs (a : Nat) (c : Int) : ∀ (l : List Rule) (out : List Int), c ∈ l.foldl (fun out r => r.Zones.foldl (addZ a) out) out ↔ c ∈ out ∨ ∃ r ∈ l, ∃ z ∈ r.Zones, c = (z.get a).Lo ∨ ((z.get a).Hi < (limZ.get a).Hi ∧ c = (z.get a).Hi + 1)
 | [], out => by simp
 | r :: l, out => by
   rw [List.foldl_cons, mem_addRs a c l, mem_addZs]
   simp only [List.mem_cons, exists_eq_or_imp, or_assoc]
theorem addZs_sorted (a : Nat) : ∀ (l : List (A10 Range)) (out : List Int), out.Pairwise (· < ·) → (l.foldl (addZ a) out).Pairwise (· < ·)
 | [], out, h => h
 | z :: l, out, h => by
   rw [List.foldl_cons]
   refine addZs_sorted a l _ ?_
   unfold addZ
   split
   · exact putL_sorted (putL_sorted h)
   · exact putL_sorted h
theorem addRs_sorted (a : Nat) : ∀ (l : List Rule) (out : List Int), out.Pairwise (· < ·) → (l.foldl (fun out r => r.Zones.foldl (addZ a) out) out).Pairwise (· < ·)
 | [], out, h => h
 | r :: l, out, h => by rw [List.foldl_cons]; exact addRs_sorted a l _ (addZs_sorted a _ _ h)
theorem startsS_sorted (p : Policy) (a : Nat) : (startsS p a).Pairwise (· < ·) := addRs_sorted a _ _ (by simp)
structure Few (p : Policy) : Prop where
 rules : p.Rules.length ≤ 1000
 zones : ∀ r ∈ p.Rules, r.Zones.length ≤ 30
theorem startsS_len {p : Policy} (F : Few p) (a : Nat) : (startsS p a).length ≤ 60001 := by
 have h1 := addRs_len a 30 p.Rules [(limZ.get a).Lo] F.zones
 have h2 := F.rules
 have h3 : p.Rules.length * 60 ≤ 1000 * 60 := Nat.mul_le_mul_right _ h2
 unfold startsS
 simp only [List.length_cons, List.length_nil] at h1
 omega
theorem ref_put (out : List Int) (n : Int) (hl : out.length ≤ 500000) : (Option.bind (if out[before out n]? = some n then some true else some false) fun v => bif v then some out else
     Option.bind (some ([] : List Int)) fun l27 =>
     Option.bind (subG out 0 ((before out n : Nat) : Int)) fun l28 =>
     Option.bind (appG l27 l28) fun out29 =>
     Option.bind (some [n]) fun l30 =>
     Option.bind (appG out29 l30) fun out31 =>
     Option.bind (subG out ((before out n : Nat) : Int) (io.len (W eIi64 out))) fun l32 =>
     Option.bind (appG out31 l32) fun l33 =>
     some l33) = some (putL out n) := by
 have hb := before_le out n
 rw [putL_eq]
 split
 · rfl
 · have h1 : subG out 0 ((before out n : Nat) : Int) = some (out.take (before out n)) := by unfold subG; rw [if_pos (by omega)]; simp
   have h2 : subG out ((before out n : Nat) : Int) (io.len (W eIi64 out)) = some (out.drop (before out n)) := by
     rw [io_len]; unfold subG; rw [if_pos (by omega)]; simp
   have h3 : appG ([] : List Int) (out.take (before out n)) = some (out.take (before out n)) := by rw [appG_some (by simp; omega)]; rfl
   have h4 : appG (out.take (before out n)) [n] = some (out.take (before out n) ++ [n]) := appG_some (by simp; omega)
   have h5 : appG (out.take (before out n) ++ [n]) (out.drop (before out n)) = some (out.take (before out n) ++ [n] ++ out.drop (before out n)) := appG_some (by simp; omega)
   simp only [Option.bind_some, cond_false, h1, h2, h3, h4, h5]
theorem test_at (out : List Int) (n : Int) : (bif io.lt ((before out n : Nat) : Int) (io.len (W eIi64 out)) then
     Option.bind (rixG out ((before out n : Nat) : Int)) (fun i25 => Option.bind (out[i25]?) fun v26 => some (io.eq v26 n)) else some false) = if out[before out n]? = some n then some true else some false := by
 rw [io_lt, io_len]
 by_cases h : before out n < out.length
 · have hlt : ((before out n : Nat) : Int) < out.length := by omega
   have hr : rixG out ((before out n : Nat) : Int) = some (before out n) := by unfold rixG; rw [if_pos (by omega)]; simp
   have hx : out[before out n]? = some out[before out n] := by simp [h]
   simp only [hlt, decide_true, cond_true, hr, Option.bind_some, hx, io_eqi, Option.some.injEq]
   by_cases he : out[before out n] = n <;> simp [he]
 · have hlt : ¬ ((before out n : Nat) : Int) < out.length := by omega
   have hx : out[before out n]? = none := by simp; omega
   simp [hlt, hx]
theorem l444_eq (out : List Int) (n : Int) (hl : out.length ≤ 500000) : whileG (ref16_starts_l444 out n) 0 = some ((before out n : Nat) : Int) := by
 refine before_loop out n (by omega) (fun k x hx => ?_) (by simp [ref16_starts_l444, io_lt, io_len])
 have hk : k < out.length := (List.getElem?_eq_some_iff.1 hx).1
 have hlt : (k : Int) < out.length := by omega
 have hr : rixG out (k : Int) = some k := by unfold rixG; rw [if_pos (by omega)]; simp
 simp only [ref16_starts_l444, io_lt, io_len, hlt, decide_true, cond_true, hr, hx, Option.bind_some, io_add, wr_up (k := k) (by omega)]
 by_cases h : x < n <;> simp [h]
theorem l446_eq (out : List Int) (n : Int) (hl : out.length ≤ 500000) (hn : -9223372036854775808 ≤ n ∧ n + 1 ≤ 9223372036854775807) : whileG (ref16_starts_l446 out n) 0 = some ((before out (n + 1) : Nat) : Int) := by
 refine before_loop out (n + 1) (by omega) (fun k x hx => ?_) (by simp [ref16_starts_l446, io_lt, io_len])
 have hk : k < out.length := (List.getElem?_eq_some_iff.1 hx).1
 have hlt : (k : Int) < out.length := by omega
 have hr : rixG out (k : Int) = some k := by unfold rixG; rw [if_pos (by omega)]; simp
 have hw : IntKind.i64.wrap (n + 1) = n + 1 := wr64 (by omega) (by omega)
 simp only [ref16_starts_l446, io_lt, io_len, hlt, decide_true, cond_true, hr, hx, Option.bind_some, io_add, hw, wr_up (k := k) (by omega)]
 by_cases h : x < n + 1 <;> simp [h]
def Ints (p : Policy) : Prop := ∀ r ∈ p.Rules, ∀ z ∈ r.Zones, ∀ i, i < 10 → -9223372036854775808 ≤ (z.get i).Hi
theorem starts_zone (p : Policy) (i : Nat) (r : Rule) (hr : p.Rules[i]? = some r) (a : Nat) (ha : a < 10) (out : List Int) (hl : out.length + 2 * r.Zones.length ≤ 400000) (hz : ∀ z ∈ r.Zones, -9223372036854775808 ≤ (z.get a).Hi) :
   whileG (ref16_starts_l434 p i a limZ) (out, 0) = some (r.Zones.foldl (addZ a) out) := by
 refine loop_fold (step := ref16_starts_l434 p i a limZ) (fun (s : List Int) k => (s, k)) r.Zones (addZ a) out _ (fun k z hk => ?_) (by simp [ref16_starts_l434, idxG_some hr, io_lt, io_len])
 have hkl : k < r.Zones.length := (List.getElem?_eq_some_iff.1 hk).1
 have hlt : (k : Int) < r.Zones.length := by omega
 have h1 := addZs_len a (r.Zones.take k) out
 have h2 : (r.Zones.take k).length ≤ r.Zones.length := by rw [List.length_take]; omega
 generalize (r.Zones.take k).foldl (addZ a) out = s at h1
 have hs : s.length ≤ 400000 := by omega
 have hp := putL_len s (z.get a).Lo
 have hlim := lim_ok a ha
 have hzm := hz z (List.mem_of_getElem? hk)
 simp only [ref16_starts_l434, idxG_some hr, Option.bind_some, io_lt, io_len, hlt, decide_true, cond_true, idxG_some hk, pixG_some ha, l444_eq s _ (by omega), io_add, wr_up (k := k) (by omega)]
 have e1 := test_at s (z.get a).Lo
 simp only [io_lt, io_len] at e1
 rw [e1]
 have e2 := ref_put s (z.get a).Lo (by omega)
 simp only [io_len, Option.bind_some] at e2 ⊢
 rw [e2]
 simp only [Option.bind_some]
 unfold addZ
 by_cases hc : (z.get a).Hi < (limZ.get a).Hi
 · have hw : IntKind.i64.wrap ((z.get a).Hi + 1) = (z.get a).Hi + 1 := wr64 (by omega) (by omega)
   simp only [hc, decide_true, cond_true, if_true, l446_eq (putL s (z.get a).Lo) _ (by omega) ⟨hzm, by omega⟩, Option.bind_some, hw]
   have e3 := test_at (putL s (z.get a).Lo) ((z.get a).Hi + 1)
   simp only [io_lt, io_len] at e3
   rw [e3]
   have e4 := ref_put (putL s (z.get a).Lo) ((z.get a).Hi + 1) (by omega)
   simp only [io_len, Option.bind_some] at e4 ⊢
   rw [e4]; rfl
 · simp only [hc, decide_false, cond_false, if_false, Option.bind_some]
theorem starts_eq {p : Policy} (F : Few p) (I : Ints p) (a : Nat) (ha : a < 10) : ref16_starts_g p a = some (startsS p a) := by
 unfold ref16_starts_g
 simp only [refLimits_eq, Option.bind_some, pixG_some ha]
 have := loop_fold (step := ref16_starts_l372 p a limZ) (fun (s : List Int) k => (s, k)) p.Rules (fun out r => r.Zones.foldl (addZ a) out) [(limZ.get a).Lo] (startsS p a) (fun k r hk => by
   have hkl : k < p.Rules.length := (List.getElem?_eq_some_iff.1 hk).1
   have hlt : (k : Int) < p.Rules.length := by omega
   have hrl := F.rules
   have h1 := addRs_len a 30 (p.Rules.take k) [(limZ.get a).Lo] (fun r hr => F.zones r (List.mem_of_mem_take hr))
   have h2 : (p.Rules.take k).length ≤ 1000 := by rw [List.length_take]; omega
   have h3 : (p.Rules.take k).length * (2 * 30) ≤ 1000 * (2 * 30) := Nat.mul_le_mul_right _ h2
   simp only [List.length_cons, List.length_nil] at h1
   have hrm := List.mem_of_getElem? hk
   have h4 := F.zones r hrm
   generalize (p.Rules.take k).foldl (fun out r => r.Zones.foldl (addZ a) out) [(limZ.get a).Lo] = s at h1
   simp only [ref16_starts_l372, io_lt, io_len, hlt, decide_true, cond_true, starts_zone p k r hk a ha s (by omega) (fun z hz => I r hrm z hz a ha), Option.bind_some, io_add, wr_up (k := k) (by omega)]) (by simp [ref16_starts_l372, io_lt, io_len, startsS])
 rw [this]; rfl
end Go.SX.Cl
namespace Go.SX.Cl
open Go Go.SX Go.Proofs
set_option maxRecDepth 100000
end Go.SX.Cl
namespace Go.SX.Cl
open Go Go.SX Go.Proofs
set_option maxRecDepth 100000
end Go.SX.Cl
