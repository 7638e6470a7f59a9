/- Parts of the proof. -/
import Derived.Test.YtllbabjgpdmblaaYClP14
import Derived.Test.YtllbabjgpdmblaaYCl5
namespace Go.SX.Cl
open Go Go.SX Go.SX.ClP
theorem like_always {p : Policy} {a : Nat} {f : A10 Int} (hf : inZ limZ f = true) (h : ∀ f, inZ limZ f = true → holds (ruleAt p a) f = true → likeB (decS p f) (decS (without p a) f) = true) : likeB (decS p f) (decS (without p a) f) = true := by
 cases hh : holds (ruleAt p a) f with
 | true => exact h f hf hh
 | false => exact like_without hh
theorem cont_mem {p : Policy} (G : Good p) {a b : Nat} (ha : a < p.Rules.length) (hb : b < p.Rules.length) (h1 : (ruleAt p a).Kind = 1) (h2 : (ruleAt p b).Kind = 2) {f : A10 Int} (hf : inZ limZ f = true) (h3 : holds (ruleAt p a) f = true) (h4 : holds (ruleAt p b) f = true) :
   ∃ g, (⟨3, a, b, g⟩ : Finding) ∈ findS p := by
 obtain ⟨g, hg⟩ := exL G [a, b] (by simp) f hf (by simp [h3, h4])
 have e : (fun f => ∀ q ∈ [a, b], holds (ruleAt p q) f = true) = fun f => holds (ruleAt p a) f = true ∧ holds (ruleAt p b) f = true := by funext f; simp
 rw [e] at hg
 refine ⟨g, ?_⟩
 unfold findS
 refine List.mem_append_right _ (List.mem_append_right _ (List.mem_flatMap.2 ⟨a, by simpa using ha, List.mem_flatMap.2 ⟨b, by simpa using hb, ?_⟩⟩))
 unfold contAt
 rw [if_pos ⟨h1, h2⟩, leastO_some hg]
 simp
theorem no_about {p : Policy} (hv : validB p = true) {a : Nat} {f : A10 Int} (hf : inZ limZ f = true) (h : likeB (decS p f) (decS (without p a) f) = false) (k : Int) (hk : k = 1 ∨ k = 2) :
   ((findS p).any fun x => decide (x.Kind = k) && (decide (x.A = (a : Int)) && decide (x.B = -1))) = false := by
 rw [List.any_eq_false]
 intro x hx
 obtain ⟨a', _, hc⟩ := find_cases hv hx
 simp only [Bool.and_eq_true, decide_eq_true_eq, not_and]
 intro h1 h2 _
 rcases hc with ⟨rfl, hz⟩ | ⟨g, rfl, hg, hlk⟩ | ⟨b, g, hbl, rfl, _, _, hg⟩
 · have : a' = a := by simp only at h2; omega
   subst this
   rw [like_without (by simp [holds, hz])] at h; cases h
 · have : a' = a := by simp only at h2; omega
   subst this
   rw [like_always hf hlk] at h; cases h
 · simp only at h1; omega
theorem misses_ok (p : Policy) (I : Ints p) (f : A10 Int) : law16_ClashMisses_g p f = some true := by
 unfold law16_ClashMisses_g
 obtain ⟨b, hb, hb'⟩ := few_eq p I 12 (by omega)
 simp only [head_eq, Option.bind_some, hb, lawWithin_eq, io_not]
 cases b with
 | false => rfl
 | true =>
   have S := hb' rfl
   simp only [Bool.not_true, cond_false]
   cases hf : inZ limZ f with
   | false => rfl
   | true =>
     simp only [Bool.not_true, cond_false, Valid_eq, Option.bind_some]
     cases hv : validB p with
     | false => rfl
     | true =>
       simp only [Bool.not_true, cond_false, Findings_eq, hv, if_true, Option.bind_some]
       have hn := S.n
       have G := Good.of_valid hv
       have hzs : ∀ r ∈ p.Rules, r.Zones.length ≤ 1000000 := fun r hr => by have := S.few.zones r hr; omega
       have hlen := find_len hv
       have hra : ∀ a, a < p.Rules.length → p.Rules[a]? = some (ruleAt p a) := fun a ha => by simp [ruleAt, ha]
       have hH : ∀ a, a < p.Rules.length → ∀ g, decide_Holds_g (ruleAt p a) g = some (holds (ruleAt p a) g) := fun a ha g => Holds_eq _ g (hzs _ (List.mem_of_getElem? (hra a ha)))
       have inner : ∀ a, a < p.Rules.length → whileG (law16_ClashMisses_l26 p a f (findS p)) 0 = some (.inl ()) := fun a ha => by
         have := loop_any (step := law16_ClashMisses_l26 p a f (findS p)) p.Rules (fun _ => false) (.inl ()) (.inl ()) (fun k x hx => by
           have hk : k < p.Rules.length := (List.getElem?_eq_some_iff.1 hx).1
           have hlt : (k : Int) < p.Rules.length := by omega
           have hxr : x = ruleAt p k := by rw [hra k hk] at hx; exact (Option.some.inj hx).symm
           subst hxr
           simp only [law16_ClashMisses_l26, io_lt, io_len, hlt, decide_true, cond_true, idxG_some (hra a ha), idxG_some hx, Option.bind_some, io_eqi, hH a ha, hH k hk, about_eq _ _ _ _ hlen, io_not, io_add, wr_up (k := k) (by omega), Bool.false_eq_true, if_false]
           by_cases h1 : (ruleAt p a).Kind = 1
           · by_cases h2 : (ruleAt p k).Kind = 2
             · cases h3 : holds (ruleAt p a) f with
               | false => simp [h1, h2]
               | true =>
                 cases h4 : holds (ruleAt p k) f with
                 | false => simp [h1, h2]
                 | true =>
                   obtain ⟨g, hg⟩ := cont_mem G ha hk h1 h2 hf h3 h4
                   have : ((findS p).any fun x => decide (x.Kind = 3) && (decide (x.A = (a : Int)) && decide (x.B = (k : Int)))) = true := List.any_eq_true.2 ⟨_, hg, by simp⟩
                   simp [h1, h2, this]
             · simp [h1, h2]
           · simp [h1]) (by simp [law16_ClashMisses_l26, io_lt, io_len])
         rw [this]; simp
       have := loop_any (step := law16_ClashMisses_l22 p f (findS p)) p.Rules (fun _ => false) (.inl ()) (.inl ()) (fun k x hx => by
         have hk : k < p.Rules.length := (List.getElem?_eq_some_iff.1 hx).1
         have hlt : (k : Int) < p.Rules.length := by omega
         have e1 := Decide_eq p f (by omega) hzs
         have e2 := Decide_eq (without p k) f (by simp [without]; omega) (fun r hr => hzs r (mem_without hr))
         simp only [law16_ClashMisses_l22, io_lt, io_len, hlt, decide_true, cond_true, inner k hk, orR, Option.bind_some, e1, Without_eq hk (by omega), e2, Like_eq, io_not, about_eq _ _ _ _ hlen, io_add, wr_up (k := k) (by omega), Bool.false_eq_true, if_false]
         cases hl : likeB (decS p f) (decS (without p k) f) with
         | true => simp
         | false =>
           have n2 := no_about hv hf hl 2 (.inr rfl)
           have n1 := no_about hv hf hl 1 (.inl rfl)
           simp only [Bool.not_false, cond_true, n2, n1, cond_false, Option.bind_some]) (by simp [law16_ClashMisses_l22, io_lt, io_len])
       rw [this]; simp [orR]
theorem without_get {p : Policy} {a k : Nat} {r : Rule} (h : (without p a).Rules[k]? = some r) (ha : a < p.Rules.length) : ∃ k', p.Rules[k']? = some r ∧ ∀ q ∈ (without p a).Rules.take k, q ∈ p.Rules.take k' := by
 unfold without at h ⊢
 simp only at h ⊢
 have hlt : (p.Rules.take a).length = a := by rw [List.length_take]; omega
 by_cases hk : k < a
 · refine ⟨k, ?_, fun q hq => ?_⟩
   · rw [List.getElem?_append_left (by omega), List.getElem?_take, if_pos hk] at h; exact h
   · rw [List.take_append_of_le_length (by omega), List.take_take, Nat.min_eq_left (by omega)] at hq; exact hq
 · refine ⟨k + 1, ?_, fun q hq => ?_⟩
   · rw [List.getElem?_append_right (by omega), hlt, List.getElem?_drop] at h
     rw [← h]; congr 1; omega
   · rw [List.take_append, hlt] at hq
     rcases List.mem_append.1 hq with hq | hq
     · have := List.mem_of_mem_take hq
       rw [List.mem_take_iff_getElem] at this ⊢
       obtain ⟨i, hi, e⟩ := this
       exact ⟨i, by omega, e⟩
     · rw [List.mem_take_iff_getElem] at hq ⊢
       obtain ⟨i, hi, e⟩ := hq
       rw [List.length_drop] at hi
       exact ⟨a + 1 + i, by omega, by rw [← e]; simp⟩
theorem valid_without {p : Policy} (h : validB p = true) {a : Nat} (ha : a < p.Rules.length) : validB (without p a) = true := by
 have hl : p.Rules.length ≤ 200 := by simp only [validB, Bool.and_eq_true, decide_eq_true_eq] at h; exact h.1
 refine valid_of (by simp [without]; omega) fun k r hr => ?_
 obtain ⟨k', h1, h2⟩ := without_get hr ha
 have := valid_all h h1
 simp only [fineAt, Bool.and_eq_true, Bool.not_eq_true', List.any_eq_false] at this ⊢
 exact ⟨this.1, this.2.1, this.2.2.1, fun q hq => this.2.2.2 q (h2 q hq)⟩
theorem leaves_ok (p : Policy) (I : Ints p) (raw : Int) (hraw : 0 ≤ raw ∧ raw ≤ 255) (f : A10 Int) : law16_ClashLeaves_g p raw f = some true := by
 unfold law16_ClashLeaves_g
 obtain ⟨b, hb, hb'⟩ := few_eq p I 10 (by omega)
 simp only [head_eq, Option.bind_some, hb, lawWithin_eq, io_not]
 cases b with
 | false => rfl
 | true =>
   have S := hb' rfl
   simp only [Bool.not_true, cond_false, Option.bind_some]
   cases hf : inZ limZ f with
   | false => rfl
   | true =>
     simp only [Bool.not_true, cond_false, Findings_eq, Option.bind_some]
     have hn := S.n
     have hzs : ∀ r ∈ p.Rules, r.Zones.length ≤ 1000000 := fun r hr => by have := S.few.zones r hr; omega
     have key : ∀ l : List Finding, l.length ≤ 1000000 → ∃ n : Nat, whileG (law16_ClashLeaves_l2 l) 0 = some (n : Int) ∧ n ≤ l.length ∧ ∀ j x, j < n → l[j]? = some x → x.Kind ≠ 3 := fun l hl => by
       obtain ⟨t, h1, h2⟩ := loop_up (step := law16_ClashLeaves_l2 l) (fun (_ : Unit) i => i) l.length (fun k _ => ∀ j x, j < k → l[j]? = some x → x.Kind ≠ 3) (fun t => ∃ n : Nat, t = (n : Int) ∧ n ≤ l.length ∧ ∀ j x, j < n → l[j]? = some x → x.Kind ≠ 3) (fun k _ hk hI => by
         have hx : l[k]? = some l[k] := by simp [hk]
         have hlt : (k : Int) < l.length := by omega
         generalize l[k] = x at hx
         simp only [law16_ClashLeaves_l2, io_lt, io_len, hlt, decide_true, cond_true, idxG_some hx, Option.bind_some, io_eqi, io_not, io_add, wr_up (k := k) (by omega)]
         by_cases h3 : x.Kind = 3
         · exact .inr ⟨_, by simp only [h3, decide_true, Bool.not_true, cond_false], k, rfl, by omega, hI⟩
         · refine .inl ⟨(), by simp only [h3, decide_false, Bool.not_false, cond_true], fun j y hj hy => ?_⟩
           rcases Nat.lt_or_eq_of_le (Nat.le_of_lt_succ hj) with h | h
           · exact hI j y h hy
           · subst h; rw [hx] at hy; cases hy; exact h3) (fun _ hI => ⟨_, by simp only [law16_ClashLeaves_l2, io_lt, io_len, Int.lt_irrefl, decide_false, cond_false, Option.bind_some], l.length, rfl, Nat.le_refl _, hI⟩) () (fun j x hj => by omega)
       obtain ⟨n, rfl, h3, h4⟩ := h2
       exact ⟨n, h1, h3, h4⟩
     cases hv : validB p with
     | false =>
       obtain ⟨n, h1, h2, _⟩ := key [] (by simp)
       have hn0 : n = 0 := by simpa using h2
       subst hn0
       simp [h1, io_eqi]
     | true =>
       simp only [if_true]
       obtain ⟨n, h1, h2, h3⟩ := key (findS p) (find_len hv)
       simp only [h1, Option.bind_some, io_eqi]
       by_cases hn0 : (n : Int) = 0
       · simp only [hn0, decide_true, cond_true]
       · have hw : IntKind.i64.wrap raw = raw := wr64 (by omega) (by omega)
         have hm : raw.tmod n = ((raw.toNat % n : Nat) : Int) := by
           obtain ⟨m, rfl⟩ := Int.eq_ofNat_of_zero_le hraw.1
           simp [Int.tmod]
         have hlt : raw.toNat % n < n := Nat.mod_lt _ (by omega)
         have hx : (findS p)[raw.toNat % n]? = some (findS p)[raw.toNat % n] := List.getElem?_eq_getElem (by omega)
         generalize (findS p)[raw.toNat % n] = x at hx
         have hk3 := h3 _ x hlt hx
         obtain ⟨a, ha, hc⟩ := find_cases hv (List.mem_of_getElem? hx)
         have hd : divG (n : Int) = some () := by unfold divG; rw [if_neg hn0]
         have hA : x.A = (a : Int) ∧ likeB (decS p f) (decS (without p a) f) = true := by
           rcases hc with ⟨rfl, hz⟩ | ⟨g, rfl, hg, hlk⟩ | ⟨b, g, hbl, rfl, _, _, hg⟩
           · exact ⟨rfl, like_without (by simp [holds, hz])⟩
           · exact ⟨rfl, like_always hf hlk⟩
           · exact (hk3 rfl).elim
         have ha0 : ¬ ((a : Int) < 0) := by omega
         have han : ¬ ((p.Rules.length : Int) ≤ a) := by omega
         have e1 := Decide_eq p f (by omega) hzs
         have e2 := Decide_eq (without p a) f (by simp [without]; omega) (fun r hr => hzs r (mem_without hr))
         simp only [hn0, decide_false, cond_false, hd, Option.bind_some, io_wrap, hw, io_rem, hm, idxG_some hx, hA.1, io_lt, ha0, io_le, io_len, han, Without_eq ha (by omega), cond_true, Valid_eq, valid_without hv ha, e1, e2, Like_eq, hA.2]
end Go.SX.Cl
