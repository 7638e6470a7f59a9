/- Parts of the proof. -/
import Derived.Test.YtllbabjgpdmblaaZClP12
import Derived.Test.YtllbabjgpdmblaaZCl4
set_option linter.unusedSimpArgs false
set_option linter.unusedVariables false
namespace Go.SX.Cl
open Go Go.SX Go.SX.ClP
def normJ (s : JS) : JS := { s with allowed := if s.allowed < 0 then -1 else 0, denied := if s.denied < 0 then -1 else 0 }
theorem norm_note (s : JS) (i : Nat) (r : Rule) : normJ (note s i r) = normJ (note (normJ s) 0 r) := by
 obtain ⟨tg, sg, lm, pr, fe, tx, cp, sh, rf, pd, so, bk, al, de⟩ := s
 by_cases k1 : r.Kind = 1
 · by_cases h : al < 0 <;> by_cases h' : de < 0 <;> simp [note, normJ, k1, h, h']
 · by_cases k2 : r.Kind = 2
   · by_cases h : al < 0 <;> by_cases h' : de < 0 <;> simp [note, normJ, k2, h, h']
   · by_cases k3 : r.Kind = 3
     · by_cases h : al < 0 <;> by_cases h' : de < 0 <;> cases pd <;> simp [note, normJ, k3, h, h']
     · by_cases k4 : r.Kind = 4
       · by_cases h : al < 0 <;> by_cases h' : de < 0 <;> cases so <;> simp [note, normJ, k4, h, h']
       · by_cases k5 : r.Kind = 5
         · by_cases h : al < 0 <;> by_cases h' : de < 0 <;> cases bk <;> simp [note, normJ, k5, h, h']
         · by_cases k6 : r.Kind = 6
           · by_cases h : al < 0 <;> by_cases h' : de < 0 <;> simp [note, normJ, k6, h, h']
           · by_cases k7 : r.Kind = 7
             · by_cases h : al < 0 <;> by_cases h' : de < 0 <;> simp [note, normJ, k7, h, h']
             · by_cases h : al < 0 <;> by_cases h' : de < 0 <;> simp [note, normJ, k1, k2, k3, k4, k5, k6, k7, h, h']
def heldJ (l : List Rule) (s : JS) : JS := l.foldl (fun s r => normJ (note s 0 r)) s
theorem norm_fold (f : A10 Int) : ∀ (l : List Rule) (s : JS) (i : Nat), normJ (l.foldl (stepJ f) (s, i)).1 = heldJ (l.filter fun r => holds r f) (normJ s)
 | [], s, i => rfl
 | r :: l, s, i => by
   rw [List.foldl_cons, List.filter_cons]
   unfold stepJ
   cases h : holds r f
   · simp only [Bool.false_eq_true, if_false]
     exact norm_fold f l s (i + 1)
   · simp only [if_true]
     have := norm_fold f l (note s i r) (i + 1)
     unfold stepJ at this
     rw [this, norm_note]
     rfl
theorem like_norm {s t : JS} (h : normJ s = normJ t) : likeB (finJ s) (finJ t) = true := by
 unfold normJ at h
 simp only [JS.mk.injEq] at h
 obtain ⟨h1, h2, h3, h4, h5, h6, h7, h8, h9, h10, h11, h12, h13, h14⟩ := h
 have ha : decide (0 ≤ s.allowed) = decide (0 ≤ t.allowed) := by
   rw [decide_eq_decide]
   by_cases a : s.allowed < 0 <;> by_cases b : t.allowed < 0 <;> simp [a, b] at h13 <;> omega
 have hd : decide (s.denied < 0) = decide (t.denied < 0) := by
   rw [decide_eq_decide]
   by_cases a : s.denied < 0 <;> by_cases b : t.denied < 0 <;> simp [a, b] at h14 <;> omega
 unfold likeB finJ
 simp only [decide_eq_true_eq, Decision.mk.injEq, h1, h2, h3, h4, h5, h6, h7, h8, h9, h10, ha, hd, and_self]
theorem like_held {p q : Policy} {f : A10 Int} (h : heldJ (p.Rules.filter fun r => holds r f) (normJ J0) = heldJ (q.Rules.filter fun r => holds r f) (normJ J0)) : likeB (decS p f) (decS q f) = true := by
 unfold decS
 exact like_norm (by rw [norm_fold, norm_fold, h])
theorem like_without {p : Policy} {a : Nat} {f : A10 Int} (h : holds (ruleAt p a) f = false) : likeB (decS p f) (decS (without p a) f) = true := by
 refine like_held ?_
 have : p.Rules.filter (fun r => holds r f) = (without p a).Rules.filter fun r => holds r f := by
   unfold without
   by_cases ha : a < p.Rules.length
   · have e : p.Rules = p.Rules.take a ++ p.Rules[a] :: p.Rules.drop (a + 1) := by
       rw [← List.drop_eq_getElem_cons ha, List.take_append_drop]
     have hr : ruleAt p a = p.Rules[a] := by simp [ruleAt, ha]
     rw [hr] at h
     conv => lhs; rw [e]
     simp only [List.filter_append, List.filter_cons, h, Bool.false_eq_true, if_false]
   · simp only []
     rw [List.take_of_length_le (by omega), List.drop_of_length_le (by omega), List.append_nil]
 rw [this]
theorem find_len {p : Policy} (hv : validB p = true) : (findS p).length ≤ 1000000 := by
 have hl : p.Rules.length ≤ 200 := by simp only [validB, Bool.and_eq_true, decide_eq_true_eq] at hv; exact hv.1
 have h1 := flatMap_len (fun a => (List.range p.Rules.length).flatMap (contAt p a)) 200 (List.range p.Rules.length) (fun a _ => by
   have := flatMap_len (contAt p a) 1 (List.range p.Rules.length) (fun b _ => contAt_len p a b)
   rw [List.length_range] at this; omega)
 rw [List.length_range] at h1
 have : p.Rules.length * 200 ≤ 200 * 200 := Nat.mul_le_mul_right _ hl
 have hnl := flatMap_len (neverAt p) 1 (List.range p.Rules.length) (fun a _ => neverAt_len p a)
 have hil := flatMap_len (idleAt p) 1 (List.range p.Rules.length) (fun a _ => idleAt_len p a)
 rw [List.length_range] at hnl hil
 unfold findS
 simp only [List.length_append]
 omega
end Go.SX.Cl
