/- Parts of the proof. -/
import Derived.Test.YtllbabjgpdmblaaYClP12
import Derived.Test.YtllbabjgpdmblaaYCl4
namespace Go.SX.Cl
open Go Go.SX Go.SX.ClP
def normJ (s : JS) : JS := { s with allowed := if s.allowed < 0 then -1 else 0, denied := if s.denied < 0 then -1 else 0 }
theorem norm_note (s : JS) (i : Nat) (r : Rule) : normJ (note s i r) = normJ (note (normJ s) 0 r) := by
 obtain ⟨tg, sg, lm, pr, fe, tx, cp, sh, rf, pd, so, bk, al, de⟩ := s
 by_cases k1 : r.Kind = 1
 · by_cases h : al < 0 <;> by_cases h' : de < 0 <;> simp [note, normJ, k1, h, h']
 · by_cases k2 : r.Kind = 2
   · by_cases h : al < 0 <;> by_cases h' : de < 0 <;> simp [note, normJ, k2, h, h']
   · by_cases k3 : r.Kind = 3
     · by_cases h : al < 0 <;> by_cases h' : de < 0 <;> cases pd <;> simp [note, normJ, k3, h, h']
     · by_cases k4 : r.Kind = 4
       · by_cases h : al < 0 <;> by_cases h' : de < 0 <;> cases so <;> simp [note, normJ, k4, h, h']
       · by_cases k5 : r.Kind = 5
         · by_cases h : al < 0 <;> by_cases h' : de < 0 <;> cases bk <;> simp [note, normJ, k5, h, h']
         · by_cases k6 : r.Kind = 6
           · by_cases h : al < 0 <;> by_cases h' : de < 0 <;> simp [note, normJ, k6, h, h']
           · by_cases k7 : r.Kind = 7
             · by_cases h : al < 0 <;> by_cases h' : de < 0 <;> simp [note, normJ, k7, h, h']
             · by_cases h : al < 0 <;> by_cases h' : de < 0 <;> simp [note, normJ, k1, k2, k3, k4, k5, k6, k7, h, h']
def heldJ (l : List Rule) (s : JS) : JS := l.foldl (fun s r => normJ (note s 0 r)) s
theorem norm_fold (f : A10 Int) : ∀ (l : List Rule) (s : JS) (i : Nat), normJ (l.foldl (stepJ f) (s, i)).1 = heldJ (l.filter fun r => holds r f) (normJ s)
 | [], s, i => rfl
 | r :: l, s, i => by
   rw [List.foldl_cons, List.filter_cons]
   unfold stepJ
   cases h : holds r f
   · simp only [Bool.false_eq_true, if_false]
     exact norm_fold f l s (i + 1)
   · simp only [if_true]
     have := norm_fold f l (note s i r) (i + 1)
     unfold stepJ at this
     rw [this, norm_note]
     rfl
theorem like_norm {s t : JS} (h : normJ s = normJ t) : likeB (finJ s) (finJ t) = true := by
 unfold normJ at h
 simp only [JS.mk.injEq] at h
 obtain ⟨h1, h2, h3, h4, h5, h6, h7, h8, h9, h10, h11, h12, h13, h14⟩ := h
 have ha : decide (0 ≤ s.allowed) = decide (0 ≤ t.allowed) := by
   rw [decide_eq_decide]
   by_cases a : s.allowed < 0 <;> by_cases b : t.allowed < 0 <;> simp [a, b] at h13 <;> omega
 have hd : decide (s.denied < 0) = decide (t.denied < 0) := by
   rw [decide_eq_decide]
   by_cases a : s.denied < 0 <;> by_cases b : t.denied < 0 <;> simp [a, b] at h14 <;> omega
 unfold likeB finJ
 simp only [decide_eq_true_eq, h1, h2, h3, h4, h5, h6, h7, h8, h9, h10, ha, hd]
theorem like_held {p q : Policy} {f : A10 Int} (h : heldJ (p.Rules.filter fun r => holds r f) (normJ J0) = heldJ (q.Rules.filter fun r => holds r f) (normJ J0)) : likeB (decS p f) (decS q f) = true := by
 unfold decS
 exact like_norm (by rw [norm_fold, norm_fold, h])
theorem like_without {p : Policy} {a : Nat} {f : A10 Int} (h : holds (ruleAt p a) f = false) : likeB (decS p f) (decS (without p a) f) = true := by
 refine like_held ?_
 have : p.Rules.filter (fun r => holds r f) = (without p a).Rules.filter fun r => holds r f := by
   unfold without
   by_cases ha : a < p.Rules.length
   · have e : p.Rules = p.Rules.take a ++ p.Rules[a] :: p.Rules.drop (a + 1) := by
       rw [← List.drop_eq_getElem_cons ha, List.take_append_drop]
     have hr : ruleAt p a = p.Rules[a] := by simp [ruleAt, ha]
     rw [hr] at h
     conv => lhs; rw [e]
     simp only [List.filter_append, List.filter_cons, h, Bool.false_eq_true, if_false]
   · simp only []
     rw [List.take_of_length_le (by omega), List.drop_of_length_le (by omega), List.append_nil]
 rw [this]
theorem exL {p : Policy} (G : Good p) (ns : List Nat) (hns : ns.length ≤ 1000000) (f : A10 Int) (hf : inZ limZ f = true) (h : ∀ a ∈ ns, holds (ruleAt p a) f = true) : ∃ g, IsL (fun f => ∀ a ∈ ns, holds (ruleAt p a) f = true) g := by
 obtain ⟨g, b, _, h2, h3⟩ := least_acc G ns hns
 cases b with
 | true => exact ⟨g, h2 rfl⟩
 | false => exact ((h3 rfl).2 f hf h).elim
def corner (z : A10 Range) : A10 Int := ⟨z.a0.Lo, z.a1.Lo, z.a2.Lo, z.a3.Lo, z.a4.Lo, z.a5.Lo, z.a6.Lo, z.a7.Lo, z.a8.Lo, z.a9.Lo⟩
theorem corner_get (z : A10 Range) (j : Nat) (hj : j < 10) : (corner z).get j = (z.get j).Lo := by
 match j, hj with
 | 0, _ | 1, _ | 2, _ | 3, _ | 4, _ | 5, _ | 6, _ | 7, _ | 8, _ | 9, _ => rfl
theorem exHold {p : Policy} (G : Good p) {a : Nat} (h : (ruleAt p a).Zones ≠ []) : ∃ f, inZ limZ f = true ∧ holds (ruleAt p a) f = true := by
 have ha : p.Rules[a]? = some (ruleAt p a) := by
   unfold ruleAt at h ⊢
   cases hp : p.Rules[a]? with
   | none => rw [hp] at h; exact (h rfl).elim
   | some r => rfl
 obtain ⟨z, hz⟩ := List.exists_mem_of_ne_nil _ h
 have hzz := G.zone _ (List.mem_of_getElem? ha) z hz
 refine ⟨corner z, inZ_iff.2 fun i hi => ?_, List.any_eq_true.2 ⟨z, hz, inZ_iff.2 fun i hi => ?_⟩⟩
 · rw [corner_get z i hi]; have := hzz i hi; omega
 · rw [corner_get z i hi]; have := hzz i hi; omega
theorem idle_least {p : Policy} (G : Good p) {a : Nat} (h : (ruleAt p a).Zones ≠ []) : IsL (fun f => holds (ruleAt p a) f = true) ((leastO fun f => holds (ruleAt p a) f = true).getD zeroF) := by
 obtain ⟨f, hf, hh⟩ := exHold G h
 obtain ⟨g, hg⟩ := exL G [a] (by simp) f hf (by simpa using hh)
 have hg' : IsL (fun f => holds (ruleAt p a) f = true) g := by
   have e : (fun f => ∀ q ∈ [a], holds (ruleAt p q) f = true) = fun f => holds (ruleAt p a) f = true := by funext f; simp
   rwa [e] at hg
 rw [leastO_some hg']; exact hg'
theorem find_cases {p : Policy} (hv : validB p = true) {x : Finding} (hx : x ∈ findS p) : ∃ a, a < p.Rules.length ∧
   ((x = ⟨1, a, -1, zeroF⟩ ∧ (ruleAt p a).Zones = []) ∨
    (∃ g, x = ⟨2, a, -1, g⟩ ∧ IsL (fun f => holds (ruleAt p a) f = true) g ∧ ∀ f, inZ limZ f = true → holds (ruleAt p a) f = true → likeB (decS p f) (decS (without p a) f) = true) ∨
    (∃ b g, b < p.Rules.length ∧ x = ⟨3, a, b, g⟩ ∧ (ruleAt p a).Kind = 1 ∧ (ruleAt p b).Kind = 2 ∧ IsL (fun f => holds (ruleAt p a) f = true ∧ holds (ruleAt p b) f = true) g)) := by
 have G := Good.of_valid hv
 unfold findS at hx
 rcases List.mem_append.1 hx with h | h
 · obtain ⟨a, ha, h⟩ := List.mem_flatMap.1 h
   unfold neverAt at h
   split at h
   · rename_i hz
     exact ⟨a, by simpa using ha, .inl ⟨by simpa using h, hz⟩⟩
   · cases h
 · rcases List.mem_append.1 h with h | h
   · obtain ⟨a, ha, h⟩ := List.mem_flatMap.1 h
     unfold idleAt at h
     split at h
     · rename_i hz
       exact ⟨a, by simpa using ha, .inr (.inl ⟨_, by simpa using h, idle_least G hz.1, hz.2⟩)⟩
     · cases h
   · obtain ⟨a, ha, h⟩ := List.mem_flatMap.1 h
     obtain ⟨b, hb, h⟩ := List.mem_flatMap.1 h
     unfold contAt at h
     split at h
     · rename_i hk
       cases hl : leastO fun f => holds (ruleAt p a) f = true ∧ holds (ruleAt p b) f = true with
       | none => rw [hl] at h; cases h
       | some g =>
         rw [hl] at h
         exact ⟨a, by simpa using ha, .inr (.inr ⟨b, g, by simpa using hb, by simpa using h, hk.1, hk.2, leastO_get hl⟩)⟩
     · cases h
theorem find_len {p : Policy} (hv : validB p = true) : (findS p).length ≤ 1000000 := by
 have hl : p.Rules.length ≤ 200 := by simp only [validB, Bool.and_eq_true, decide_eq_true_eq] at hv; exact hv.1
 have h1 := flatMap_len (fun a => (List.range p.Rules.length).flatMap (contAt p a)) 200 (List.range p.Rules.length) (fun a _ => by
   have := flatMap_len (contAt p a) 1 (List.range p.Rules.length) (fun b _ => contAt_len p a b)
   rw [List.length_range] at this; omega)
 rw [List.length_range] at h1
 have : p.Rules.length * 200 ≤ 200 * 200 := Nat.mul_le_mul_right _ hl
 have hnl := flatMap_len (neverAt p) 1 (List.range p.Rules.length) (fun a _ => neverAt_len p a)
 have hil := flatMap_len (idleAt p) 1 (List.range p.Rules.length) (fun a _ => idleAt_len p a)
 rw [List.length_range] at hnl hil
 unfold findS
 simp only [List.length_append]
 omega
theorem shown_ok (p : Policy) (I : Ints p) (f : A10 Int) : law16_ClashShown_g p f = some true := by
 unfold law16_ClashShown_g
 obtain ⟨b, hb, hb'⟩ := few_eq p I 12 (by omega)
 simp only [head_eq, Option.bind_some, hb, lawWithin_eq, io_not]
 cases b with
 | false => rfl
 | true =>
   have S := hb' rfl
   simp only [Bool.not_true, cond_false, Option.bind_some]
   cases hf : inZ limZ f with
   | false => rfl
   | true =>
     simp only [Bool.not_true, cond_false, Findings_eq, Option.bind_some]
     have hn := S.n
     have hzs : ∀ r ∈ p.Rules, r.Zones.length ≤ 1000000 := fun r hr => by have := S.few.zones r hr; omega
     have key : whileG (law16_ClashShown_l2 (if validB p = true then findS p else []) p f) 0 = some (.inl ()) := by
       cases hv : validB p with
       | false =>
         rw [whileG_eq]
         simp [law16_ClashShown_l2, io_lt, io_len]
       | true =>
         simp only [if_true]
         have hlen := find_len hv
         have hcase := fun x hx => find_cases hv (x := x) hx
         generalize findS p = l at hlen hcase
         have := loop_any (step := law16_ClashShown_l2 l p f) l (fun _ => false) (.inl ()) (.inl ()) (fun k x hx => by
           have hk : k < l.length := (List.getElem?_eq_some_iff.1 hx).1
           have hlt : (k : Int) < l.length := by omega
           obtain ⟨a, ha, hc⟩ := hcase x (List.mem_of_getElem? hx)
           have hra : p.Rules[a]? = some (ruleAt p a) := by simp [ruleAt, ha]
           have hha := fun g => Holds_eq (ruleAt p a) g (hzs _ (List.mem_of_getElem? hra))
           have ha0 : ¬ ((a : Int) < 0) := by omega
           have han : ¬ ((p.Rules.length : Int) ≤ a) := by omega
           simp only [law16_ClashShown_l2, io_lt, io_le, io_len, hlt, decide_true, cond_true, idxG_some hx, Option.bind_some, io_eqi, io_bne, io_add, wr_up (k := k) (by omega), Bool.false_eq_true, if_false]
           rcases hc with ⟨rfl, hz⟩ | ⟨g, rfl, hg, hlk⟩ | ⟨b, g, hbl, rfl, _, _, hg⟩
           · have hh : holds (ruleAt p a) f = false := by simp [holds, hz]
             have h1 : ¬ ((0 : Int) ≤ -1) := by omega
             have h2 : ¬ ((1 : Int) = 3) := by omega
             have h3 : ¬ ((p.Rules.length : Int) ≤ -1) := by omega
             simp only [ha0, han, h1, h2, h3, decide_false, decide_true, cond_false, cond_true, Option.bind_some, idxG_some hra, hha, hh, qA10_eq, io_not, zeroF, orR]
             rfl
           · have h1 : ¬ ((0 : Int) ≤ -1) := by omega
             have h2 : ¬ ((2 : Int) = 3) := by omega
             have h3 : ¬ ((p.Rules.length : Int) ≤ -1) := by omega
             have h4 : ¬ ((2 : Int) = 1) := by omega
             have h5 : max (-1 : Int) (a : Int) = a := by omega
             obtain ⟨v, hv1, hv2⟩ := lawLeast_eq f g
             have hhg : holds (ruleAt p a) g = true := hg.p
             have hvf : (bif v then Option.bind (some (holds (ruleAt p a) f)) fun v21 => bif v21 then Option.bind (some (holds (ruleAt p a) f)) (fun v23 => some v23) else some false else some false) = some false := by
               cases v with
               | false => rfl
               | true =>
                 have := hg.least f hf (hv2 rfl)
                 cases hh : holds (ruleAt p a) f with
                 | true => exact (this hh).elim
                 | false => rfl
             have hlk' : likeB (decS p f) (decS (without p a) f) = true := by
               cases hh : holds (ruleAt p a) f with
               | true => exact hlk f hf hh
               | false => exact like_without hh
             have e1 := Decide_eq p f (by omega) hzs
             have e2 := Decide_eq (without p a) f (by simp [without]; omega) (fun r hr => hzs r (mem_without hr))
             simp only [Option.bind_some] at hvf
             simp only [ha0, han, h1, h2, h3, h4, h5, decide_false, decide_true, cond_false, cond_true, Option.bind_some, idxG_some hra, hha, hhg, io_max, io_not, lawWithin_eq, hg.win, hv1, hvf, Bool.not_true, beq_self_eq_true, e1, Without_eq ha (by omega), e2, Like_eq, hlk', orR]
           · have h1 : ((0 : Int) ≤ b) := by omega
             have h3 : ¬ ((p.Rules.length : Int) ≤ b) := by omega
             have h4 : ¬ ((3 : Int) = 1) := by omega
             have h5 : ¬ ((3 : Int) = 2) := by omega
             have hrb : p.Rules[b]? = some (ruleAt p b) := by simp [ruleAt, hbl]
             have hhb := fun g => Holds_eq (ruleAt p b) g (hzs _ (List.mem_of_getElem? hrb))
             obtain ⟨v, hv1, hv2⟩ := lawLeast_eq f g
             have hhg : holds (ruleAt p a) g = true := hg.p.1
             have hhg' : holds (ruleAt p b) g = true := hg.p.2
             have hvf : (bif v then Option.bind (some (holds (ruleAt p a) f)) fun v21 => bif v21 then Option.bind (some (holds (ruleAt p b) f)) (fun v23 => some v23) else some false else some false) = some false := by
               cases v with
               | false => rfl
               | true =>
                 have := hg.least f hf (hv2 rfl)
                 cases hh : holds (ruleAt p a) f with
                 | true =>
                   cases hh' : holds (ruleAt p b) f with
                   | true => exact (this ⟨hh, hh'⟩).elim
                   | false => rfl
                 | false => rfl
             simp only [Option.bind_some] at hvf
             simp only [ha0, han, h1, h3, h4, h5, decide_false, decide_true, cond_false, cond_true, Option.bind_some, idxG_some hra, idxG_some hrb, hha, hhb, hhg, hhg', io_not, lawWithin_eq, hg.win, hv1, hvf, Bool.not_true, beq_self_eq_true, orR]) (by simp [law16_ClashShown_l2, io_lt, io_len])
         rw [this]; simp
     rw [key]; rfl
end Go.SX.Cl
