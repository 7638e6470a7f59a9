/- Parts of the proof. -/
import Derived.Test.YtllbabjgpdmblaaZClP8
import Derived.Test.YtllbabjgpdmblaaZClP9
import Derived.Test.YtllbabjgpdmblaaZCl12
set_option linter.unusedSimpArgs false
set_option linter.unusedVariables false
namespace Go.SX.Cl
open Go Go.SX Go.SX.ClP
theorem Good.of_valid {p : Policy} (h : validB p = true) : Good p := by
 have hl : p.Rules.length ≤ 200 := by simp only [validB, Bool.and_eq_true, decide_eq_true_eq] at h; exact h.1
 have hf : ∀ r ∈ p.Rules, r.Zones.length ≤ 200 ∧ ∀ z ∈ r.Zones, withinZ z = true := fun r hr => by
   obtain ⟨k, hk⟩ := List.getElem?_of_mem hr
   have := valid_all h hk
   simp only [fineAt, Bool.and_eq_true, decide_eq_true_eq, List.all_eq_true] at this
   exact ⟨this.2.1, this.2.2.1⟩
 exact ⟨by omega, fun r hr => by have := (hf r hr).1; omega, fun r hr z hz i hi => withinZ_iff.1 ((hf r hr).2 z hz) i hi⟩
open Classical in
noncomputable def leastO (P : A10 Int → Prop) : Option (A10 Int) := if h : ∃ g, IsL P g then some h.choose else none
theorem leastO_some {P : A10 Int → Prop} {g : A10 Int} (h : IsL P g) : leastO P = some g := by
 unfold leastO
 rw [dif_pos ⟨g, h⟩]
 exact congrArg some ((Exists.choose_spec ⟨g, h⟩ : IsL P _).uniq h)
theorem leastO_none {P : A10 Int → Prop} (h : ∀ f, inZ limZ f = true → ¬ P f) : leastO P = none := by
 unfold leastO
 rw [dif_neg]
 rintro ⟨g, hg⟩
 exact h g hg.win hg.p
def zeroF : A10 Int := ⟨0, 0, 0, 0, 0, 0, 0, 0, 0, 0⟩
def neverAt (p : Policy) (a : Nat) : List Finding := if (ruleAt p a).Zones = [] then [⟨1, a, -1, zeroF⟩] else []
open Classical in
noncomputable def idleAt (p : Policy) (a : Nat) : List Finding :=
 if (ruleAt p a).Zones ≠ [] ∧ ∀ f, inZ limZ f = true → holds (ruleAt p a) f = true → likeB (decS p f) (decS (without p a) f) = true
 then [⟨2, a, -1, (leastO fun f => holds (ruleAt p a) f = true).getD zeroF⟩] else []
noncomputable def contAt (p : Policy) (a b : Nat) : List Finding :=
 if (ruleAt p a).Kind = 1 ∧ (ruleAt p b).Kind = 2 then ((leastO fun f => holds (ruleAt p a) f = true ∧ holds (ruleAt p b) f = true).map fun f => (⟨3, a, b, f⟩ : Finding)).toList else []
noncomputable def findS (p : Policy) : List Finding :=
 (List.range p.Rules.length).flatMap (neverAt p) ++ ((List.range p.Rules.length).flatMap (idleAt p) ++ (List.range p.Rules.length).flatMap fun a => (List.range p.Rules.length).flatMap (contAt p a))
theorem zonesFrom_snoc : ∀ (l : List Rule) (k : Nat) (r : Rule), zonesFrom k (l ++ [r]) = zonesFrom k l ++ r.Zones.map (fun z => Ranged.mk ((k + l.length : Nat) : Int) z)
 | [], k, r => by simp [zonesFrom]
 | x :: l, k, r => by
   rw [List.cons_append, zonesFrom, zonesFrom_snoc l (k + 1) r, zonesFrom, List.append_assoc]
   congr 3
   funext z; congr 1
   simp only [List.length_cons]; omega
theorem flatMap_len {α β : Type} (f : α → List β) (m : Nat) : ∀ l : List α, (∀ x ∈ l, (f x).length ≤ m) → (l.flatMap f).length ≤ l.length * m
 | [], _ => by simp
 | x :: l, h => by
   rw [List.flatMap_cons, List.length_append]
   have h1 := h x (by simp)
   have h2 := flatMap_len f m l (fun y hy => h y (List.mem_cons_of_mem _ hy))
   simp only [List.length_cons, Nat.succ_mul]; omega
theorem range_flat {β : Type} (f : Nat → List β) (k : Nat) : (List.range (k + 1)).flatMap f = (List.range k).flatMap f ++ f k := by rw [List.range_succ, List.flatMap_append]; simp
theorem ruleAt_get {p : Policy} {k : Nat} {r : Rule} (h : p.Rules[k]? = some r) : ruleAt p k = r := by simp [ruleAt, h]
theorem zones_loop {p : Policy} (G : Good p) : whileG (clash_Findings_l12 p) ([], 0) = some (zonesFrom 0 p.Rules) := by
 obtain ⟨t, h1, h2⟩ := loop_up (step := clash_Findings_l12 p) (fun (s : List Ranged) i => (s, i)) p.Rules.length (fun k s => s = zonesFrom 0 (p.Rules.take k)) (fun t => t = zonesFrom 0 p.Rules) (fun k s hk hI => by
   have hx : p.Rules[k]? = some p.Rules[k] := by simp [hk]
   have hlt : (k : Int) < p.Rules.length := by omega
   have hkk := G.rules
   generalize p.Rules[k] = x at hx
   have hxm := List.mem_of_getElem? hx
   have hxz := G.zones x hxm
   have hsl : s.length ≤ 1000000 := by
     rw [hI]
     have h1 := zonesFrom_len (p.Rules.take k) 0 1000 (fun r hr => G.zones r (List.mem_of_mem_take hr))
     have h2 : (p.Rules.take k).length ≤ 1000 := by rw [List.length_take]; omega
     have h3 : (p.Rules.take k).length * 1000 ≤ 1000 * 1000 := Nat.mul_le_mul_right _ h2
     omega
   have hin : whileG (clash_Findings_l14 x k) (s, 0) = some (s ++ x.Zones.map (fun z => Ranged.mk (k : Int) z)) := by
     have hf : ∀ (l : List (A10 Range)) (s : List Ranged), l.foldl (fun s z => s ++ [Ranged.mk (k : Int) z]) s = s ++ l.map (fun z => Ranged.mk (k : Int) z) := fun l => by
       induction l with
       | nil => intro s; simp
       | cons z l ih => intro s; rw [List.foldl_cons, ih]; simp
     rw [← hf]
     refine loop_fold (step := clash_Findings_l14 x k) (fun (s : List Ranged) i => (s, i)) x.Zones (fun s z => s ++ [Ranged.mk (k : Int) z]) s _ (fun q z hz => ?_) (by simp [clash_Findings_l14, io_lt, io_len])
     have hq : q < x.Zones.length := (List.getElem?_eq_some_iff.1 hz).1
     have hlq : (q : Int) < x.Zones.length := by omega
     rw [hf]
     have hl2 : (s ++ (x.Zones.take q).map (fun z => Ranged.mk (k : Int) z)).length ≤ 2000000 := by simp; omega
     generalize s ++ (x.Zones.take q).map (fun z => Ranged.mk (k : Int) z) = s' at hl2
     have ha : appG s' [Ranged.mk (k : Int) z] = some (s' ++ [Ranged.mk (k : Int) z]) := appG_some (by simp; omega)
     simp only [clash_Findings_l14, io_lt, io_len, hlq, decide_true, cond_true, idxG_some hz, Option.bind_some, ha, io_add, wr_up (k := q) (by omega)]
   refine .inl ⟨s ++ x.Zones.map (fun z => Ranged.mk (k : Int) z), ?_, ?_⟩
   · simp only [clash_Findings_l12, io_lt, io_len, hlt, decide_true, cond_true, idxG_some hx, Option.bind_some, hin, io_add, wr_up (k := k) (by omega)]
   · rw [hI, List.take_add_one, hx, Option.toList_some, zonesFrom_snoc]
     congr 3
     funext z; congr 1
     rw [List.length_take]; omega) (fun s hI => ⟨s, by simp [clash_Findings_l12, io_lt, io_len], by rw [hI, List.take_length]⟩) [] (by simp [zonesFrom])
 rw [h1, h2]
theorem clone_eq (l : List Rule) (h : l.length ≤ 1000000) : slices_Clone_g l = some l := by
 have ha : appG ([] : List Rule) l = some l := by rw [appG_some (by simp; omega)]; rfl
 unfold slices_Clone_g nilQ
 cases l with
 | nil => simp [ha]
 | cons x l => simp only [cond_false, Option.bind_some, ha]
theorem contAt_len (p : Policy) (a b : Nat) : (contAt p a b).length ≤ 1 := by
 unfold contAt
 split
 · cases leastO fun f => holds (ruleAt p a) f = true ∧ holds (ruleAt p b) f = true <;> simp
 · simp
theorem cont_loop {p : Policy} (G : Good p) (x : Rule) (a : Nat) (ha : p.Rules[a]? = some x) (c0 never idle : List Finding) (hc : c0.length ≤ 2000000) :
   whileG (clash_Findings_l28 p x a (zonesFrom 0 p.Rules) limZ never idle) (c0, 0) = some (never, idle, c0 ++ (List.range p.Rules.length).flatMap (contAt p a)) := by
 have hal : a < p.Rules.length := (List.getElem?_eq_some_iff.1 ha).1
 obtain ⟨t, h1, h2⟩ := loop_up (step := clash_Findings_l28 p x a (zonesFrom 0 p.Rules) limZ never idle) (fun (s : List Finding) i => (s, i)) p.Rules.length (fun k s => s = c0 ++ (List.range k).flatMap (contAt p a)) (fun t => t = (never, idle, c0 ++ (List.range p.Rules.length).flatMap (contAt p a))) (fun k s hk hI => by
   have hx : p.Rules[k]? = some p.Rules[k] := by simp [hk]
   have hlt : (k : Int) < p.Rules.length := by omega
   have hkk := G.rules
   generalize p.Rules[k] = y at hx
   have hsl : s.length ≤ 3000000 := by
     rw [hI, List.length_append]
     have := flatMap_len (contAt p a) 1 (List.range k) (fun b _ => contAt_len p a b)
     rw [List.length_range] at this; omega
   refine .inl ⟨s ++ contAt p a k, ?_, by rw [hI, range_flat, List.append_assoc]⟩
   simp only [clash_Findings_l28, io_lt, io_len, hlt, decide_true, cond_true, idxG_some hx, Option.bind_some, io_eqi, io_not, io_add, wr_up (k := k) (by omega)]
   by_cases hk1 : x.Kind = 1
   · by_cases hk2 : y.Kind = 2
     · have hfd : Finder.mk p (zonesFrom 0 p.Rules) limZ = fdOf p := rfl
       have hii : [(a : Int), (k : Int)] = ints [a, k] := rfl
       obtain ⟨g, b, m1, m2, m3⟩ := least_acc G [a, k] (by simp)
       have hP : (fun f => ∀ q ∈ [a, k], holds (ruleAt p q) f = true) = fun f => holds (ruleAt p a) f = true ∧ holds (ruleAt p k) f = true := by
         funext f; simp
       simp only [hk1, hk2, decide_true, Bool.not_true, cond_false, Option.bind_some, hfd, hii, m1]
       cases b with
       | true =>
         have hl := leastO_some (m2 rfl)
         rw [hP] at hl
         have hap : appG s [(⟨3, (a : Int), (k : Int), g⟩ : Finding)] = some (s ++ [⟨3, (a : Int), (k : Int), g⟩]) := appG_some (by simp; omega)
         have hcA : contAt p a k = [⟨3, a, k, g⟩] := by
           unfold contAt
           rw [if_pos ⟨by rw [ruleAt_get ha]; exact hk1, by rw [ruleAt_get hx]; exact hk2⟩, hl]; rfl
         simp only [cond_true, Option.bind_some, hap, hcA]
       | false =>
         have hl := leastO_none (P := fun f => holds (ruleAt p a) f = true ∧ holds (ruleAt p k) f = true) (fun f hf hp => (m3 rfl).2 f hf (by simpa using hp))
         have hcA : contAt p a k = [] := by
           unfold contAt
           rw [if_pos ⟨by rw [ruleAt_get ha]; exact hk1, by rw [ruleAt_get hx]; exact hk2⟩, hl]; rfl
         simp only [cond_false, Option.bind_some, hcA, List.append_nil]
     · have hcA : contAt p a k = [] := by
         unfold contAt
         rw [if_neg fun h => hk2 (by rw [← ruleAt_get hx]; exact h.2)]
       simp only [hk1, hk2, decide_true, decide_false, Bool.not_true, Bool.not_false, cond_true, cond_false, Option.bind_some, hcA, List.append_nil]
   · have hcA : contAt p a k = [] := by
       unfold contAt
       rw [if_neg fun h => hk1 (by rw [← ruleAt_get ha]; exact h.1)]
     simp only [hk1, decide_false, Bool.not_false, cond_true, Option.bind_some, hcA, List.append_nil]) (fun s hI => ⟨(never, idle, s), by simp [clash_Findings_l28, io_lt, io_len], by rw [hI]⟩) c0 (by simp)
 rw [h1, h2]
theorem concat_eq (a b c : List Finding) (h : a.length + b.length + c.length ≤ 1000000) : slices_Concat_g [a, b, c] = some (a ++ (b ++ c)) := by
 have hw : ∀ k : Nat, k ≤ 3000000 → IntKind.i64.wrap (k : Int) = k := fun k hk => wr64 (by omega) (by omega)
 have h1 : whileG (slices_Concat_l2 [a, b, c]) (0, 0) = some ((a.length + b.length + c.length : Nat) : Int) := by
   have st : ∀ (k : Nat) (x : List Finding) (s : Nat), [a, b, c][k]? = some x → s + x.length ≤ 3000000 → slices_Concat_l2 [a, b, c] ((s : Int), (k : Int)) = some (.inl (((s + x.length : Nat) : Int), ((k + 1 : Nat) : Int))) := fun k x s hx hs => by
     have hk : k < 3 := (List.getElem?_eq_some_iff.1 hx).1
     have hlt : (k : Int) < 3 := by omega
     have e3 : (([a, b, c] : List (List Finding)).length : Int) = 3 := rfl
     have e4 : IntKind.i64.wrap ((s : Int) + (x.length : Int)) = ((s + x.length : Nat) : Int) := hw (s + x.length) hs
     have e5 : ¬ (((s + x.length : Nat) : Int) < 0) := by omega
     simp only [slices_Concat_l2, io_lt, io_len, e3, hlt, decide_true, cond_true, idxG_some hx, Option.bind_some, io_add, e4, e5, decide_false, cond_false, wr_up (k := k) (by omega)]
   have e0 : ((0 : Int), (0 : Int)) = (((0 : Nat) : Int), ((0 : Nat) : Int)) := rfl
   rw [e0, whileG_eq, st 0 a 0 rfl (by omega)]; simp only []
   rw [whileG_eq, st 1 b _ rfl (by omega)]; simp only []
   rw [whileG_eq, st 2 c _ rfl (by omega)]; simp only []
   rw [whileG_eq]
   simp [slices_Concat_l2, io_lt, io_len]
 have h2 : ∀ n : Nat, n ≤ 1000000 → slices_Grow_g (n : Int) = some [] := fun n hn => by
   have e1 : ¬ ((n : Int) < 0) := by omega
   have e2 : IntKind.i64.wrap (0 - 0) = 0 := by decide
   have e3 : IntKind.i64.wrap ((n : Int) - 0) = n := by rw [Int.sub_zero]; exact hw n (by omega)
   simp only [slices_Grow_g, io_lt, io_subi, e1, e2, e3, decide_false, cond_false, Option.bind_some]
   by_cases h0 : (0 : Int) < n
   · have hm : ∀ z : Finding, mksG (n : Int) z = some (List.replicate n z) := fun z => by unfold mksG; rw [if_pos (by omega)]; simp
     have hh : ∀ l : List Finding, headG l 0 = some [] := fun l => by unfold headG; rw [if_pos (by omega)]; simp
     simp only [h0, decide_true, cond_true, hm, hh, Option.bind_some]
   · simp only [h0, decide_false, cond_false, Option.bind_some]
 have h3 : whileG (slices_Concat_l4 [a, b, c]) ([], 0) = some (a ++ (b ++ c)) := by
   have st : ∀ (k : Nat) (x s : List Finding), [a, b, c][k]? = some x → s.length + x.length ≤ 3000000 → slices_Concat_l4 [a, b, c] (s, (k : Int)) = some (.inl (s ++ x, ((k + 1 : Nat) : Int))) := fun k x s hx hs => by
     have hk : k < 3 := (List.getElem?_eq_some_iff.1 hx).1
     have hlt : (k : Int) < 3 := by omega
     have e3 : (([a, b, c] : List (List Finding)).length : Int) = 3 := rfl
     have ha : appG s x = some (s ++ x) := appG_some (by omega)
     simp only [slices_Concat_l4, io_lt, io_len, e3, hlt, decide_true, cond_true, idxG_some hx, Option.bind_some, ha, io_add, wr_up (k := k) (by omega)]
   have e0 : (([] : List Finding), (0 : Int)) = ([], ((0 : Nat) : Int)) := rfl
   rw [e0, whileG_eq, st 0 a [] rfl (by simp; omega)]; simp only []
   rw [whileG_eq, st 1 b _ rfl (by simp; omega)]; simp only []
   rw [whileG_eq, st 2 c _ rfl (by simp; omega)]; simp only []
   rw [whileG_eq]
   simp [slices_Concat_l4, io_lt, io_len]
 unfold slices_Concat_g
 rw [h1]; simp only [Option.bind_some]
 rw [h2 _ h]; simp only [Option.bind_some]
 rw [h3]; rfl
theorem neverAt_len (p : Policy) (a : Nat) : (neverAt p a).length ≤ 1 := by unfold neverAt; split <;> simp
theorem idleAt_len (p : Policy) (a : Nat) : (idleAt p a).length ≤ 1 := by unfold idleAt; split <;> simp
theorem contAt_nil {p : Policy} {a : Nat} (h : (ruleAt p a).Zones = []) (b : Nat) : contAt p a b = [] := by
 unfold contAt
 split
 · rw [leastO_none fun f _ hp => by simp [holds, h] at hp]; rfl
 · rfl
theorem main_loop {p : Policy} (G : Good p) : whileG (clash_Findings_l26 p (zonesFrom 0 p.Rules) limZ) ([], [], [], 0) =
   some ((List.range p.Rules.length).flatMap (neverAt p), (List.range p.Rules.length).flatMap (idleAt p), (List.range p.Rules.length).flatMap fun a => (List.range p.Rules.length).flatMap (contAt p a)) := by
 have hr := G.rules
 have hcl : ∀ k, k ≤ p.Rules.length → ((List.range k).flatMap fun a => (List.range p.Rules.length).flatMap (contAt p a)).length ≤ 1000000 := fun k hk => by
   have h1 := flatMap_len (fun a => (List.range p.Rules.length).flatMap (contAt p a)) 1000 (List.range k) (fun a _ => by
     have := flatMap_len (contAt p a) 1 (List.range p.Rules.length) (fun b _ => contAt_len p a b)
     rw [List.length_range] at this; omega)
   rw [List.length_range] at h1
   have : k * 1000 ≤ 1000 * 1000 := Nat.mul_le_mul_right _ (by omega)
   omega
 have hnl : ∀ k, ((List.range k).flatMap (neverAt p)).length ≤ k := fun k => by
   have := flatMap_len (neverAt p) 1 (List.range k) (fun a _ => neverAt_len p a)
   rw [List.length_range] at this; omega
 have hil : ∀ k, ((List.range k).flatMap (idleAt p)).length ≤ k := fun k => by
   have := flatMap_len (idleAt p) 1 (List.range k) (fun a _ => idleAt_len p a)
   rw [List.length_range] at this; omega
 obtain ⟨t, h1, h2⟩ := loop_up (step := clash_Findings_l26 p (zonesFrom 0 p.Rules) limZ) (fun (s : List Finding × List Finding × List Finding) i => (s.1, s.2.1, s.2.2, i)) p.Rules.length
   (fun k s => s = ((List.range k).flatMap (neverAt p), (List.range k).flatMap (idleAt p), (List.range k).flatMap fun a => (List.range p.Rules.length).flatMap (contAt p a)))
   (fun t => t = ((List.range p.Rules.length).flatMap (neverAt p), (List.range p.Rules.length).flatMap (idleAt p), (List.range p.Rules.length).flatMap fun a => (List.range p.Rules.length).flatMap (contAt p a))) (fun k s hk hI => by
   have hx : p.Rules[k]? = some p.Rules[k] := by simp [hk]
   have hlt : (k : Int) < p.Rules.length := by omega
   have hn := hnl k
   have hi := hil k
   have hc := hcl k (by omega)
   subst hI
   generalize p.Rules[k] = x at hx
   refine .inl ⟨((List.range k).flatMap (neverAt p) ++ neverAt p k, (List.range k).flatMap (idleAt p) ++ idleAt p k, ((List.range k).flatMap fun a => (List.range p.Rules.length).flatMap (contAt p a)) ++ (List.range p.Rules.length).flatMap (contAt p k)), ?_, by rw [range_flat, range_flat, range_flat]⟩
   generalize (List.range k).flatMap (neverAt p) = nv at hn
   generalize (List.range k).flatMap (idleAt p) = il at hi
   generalize ((List.range k).flatMap fun a => (List.range p.Rules.length).flatMap (contAt p a)) = ct at hc
   have hra := ruleAt_get hx
   simp only [clash_Findings_l26, io_lt, io_len, hlt, decide_true, cond_true, idxG_some hx, Option.bind_some, io_eqi, io_not, io_add, wr_up (k := k) (by omega)]
   by_cases hz : x.Zones = []
   · have hz0 : (x.Zones.length : Int) = 0 := by rw [hz]; rfl
     have ha : appG nv [(⟨1, (k : Int), -1, ⟨0, 0, 0, 0, 0, 0, 0, 0, 0, 0⟩⟩ : Finding)] = some (nv ++ [⟨1, (k : Int), -1, ⟨0, 0, 0, 0, 0, 0, 0, 0, 0, 0⟩⟩]) := appG_some (by simp; omega)
     have hnA : neverAt p k = [⟨1, (k : Int), -1, ⟨0, 0, 0, 0, 0, 0, 0, 0, 0, 0⟩⟩] := by unfold neverAt; rw [if_pos (by rw [hra]; exact hz)]; rfl
     have hiA : idleAt p k = [] := by unfold idleAt; rw [if_neg fun h => h.1 (by rw [hra]; exact hz)]
     have hcA : (List.range p.Rules.length).flatMap (contAt p k) = [] := by
       rw [List.flatMap_eq_nil_iff]
       exact fun b _ => contAt_nil (by rw [hra]; exact hz) b
     simp only [hz0, decide_true, cond_true, ha, Option.bind_some, hnA, hiA, hcA, List.append_nil]
   · have hz0 : ¬ ((x.Zones.length : Int) = 0) := by
       intro h; exact hz (List.eq_nil_of_length_eq_zero (by omega))
     have hnA : neverAt p k = [] := by unfold neverAt; rw [if_neg fun h => hz (by rw [hra] at h; exact h)]
     have hcl' := clone_eq p.Rules (by omega)
     have hdel : delG p.Rules (k : Int) ((k + 1 : Nat) : Int) = some (without p k).Rules := by
       unfold delG; rw [if_pos (by omega)]; simp [without]
     have hfd : Finder.mk p (zonesFrom 0 p.Rules) limZ = fdOf p := rfl
     have hii : [(k : Int)] = ints [k] := rfl
     have hwo : Policy.mk (without p k).Rules = without p k := rfl
     obtain ⟨g, b, m1, m2, m3⟩ := least_dif G k
     simp only [hz0, decide_false, cond_false, hcl', hdel, Option.bind_some, hfd, hii, hwo, m1, hnA, List.append_nil]
     cases b with
     | true =>
       have hiA : idleAt p k = [] := by
         unfold idleAt
         rw [if_neg]
         rintro ⟨_, h⟩
         have := (m2 rfl)
         have h3 := h g this.win this.p.1
         rw [this.p.2] at h3; cases h3
       simp only [Bool.not_true, cond_false, Option.bind_some, hiA, List.append_nil]
       have := cont_loop G x k hx ct nv il (by omega)
       rw [hfd.symm] at *
       rw [this]; rfl
     | false =>
       obtain ⟨g', b', n1, n2, n3⟩ := least_acc G [k] (by simp)
       have hP : (fun f => ∀ q ∈ [k], holds (ruleAt p q) f = true) = fun f => holds (ruleAt p k) f = true := by
         funext f; simp
       have hg' : g' = (leastO fun f => holds (ruleAt p k) f = true).getD zeroF := by
         cases b' with
         | true => have := leastO_some (n2 rfl); rw [hP] at this; rw [this]; rfl
         | false =>
           rw [leastO_none fun f hf hp => (n3 rfl).2 f hf (by simpa using hp)]
           exact (n3 rfl).1
       have hiA : idleAt p k = [⟨2, (k : Int), -1, g'⟩] := by
         unfold idleAt
         rw [if_pos ⟨by rw [hra]; exact hz, m3 rfl⟩, hg']
       have ha : appG il [(⟨2, (k : Int), -1, g'⟩ : Finding)] = some (il ++ [⟨2, (k : Int), -1, g'⟩]) := appG_some (by simp; omega)
       simp only [Bool.not_false, cond_true, Option.bind_some, n1, ha, hiA]
       have := cont_loop G x k hx ct nv (il ++ [⟨2, (k : Int), -1, g'⟩]) (by omega)
       rw [hfd.symm] at *
       rw [this]; rfl) (fun s hI => ⟨s, by simp [clash_Findings_l26, io_lt, io_len], by rw [hI]⟩) ([], [], []) (by simp)
 have e0 : (([] : List Finding), ([] : List Finding), ([] : List Finding), (0 : Int)) = ((fun (s : List Finding × List Finding × List Finding) (i : Int) => (s.1, s.2.1, s.2.2, i)) ([], [], []) 0) := rfl
 rw [e0, h1, h2]
theorem Findings_eq (p : Policy) : clash_Findings_g p = some (if validB p then findS p else []) := by
 unfold clash_Findings_g
 rw [Valid_eq]
 simp only [Option.bind_some, io_not]
 cases hv : validB p with
 | false => rfl
 | true =>
   have G := Good.of_valid hv
   have hr := G.rules
   simp only [Bool.not_true, cond_false, Limits_eq, Option.bind_some, zones_loop G, main_loop G]
   have hcl : ((List.range p.Rules.length).flatMap fun a => (List.range p.Rules.length).flatMap (contAt p a)).length ≤ 200 * 200 := by
     have hl : p.Rules.length ≤ 200 := by simp only [validB, Bool.and_eq_true, decide_eq_true_eq] at hv; exact hv.1
     have h1 := flatMap_len (fun a => (List.range p.Rules.length).flatMap (contAt p a)) 200 (List.range p.Rules.length) (fun a _ => by
       have := flatMap_len (contAt p a) 1 (List.range p.Rules.length) (fun b _ => contAt_len p a b)
       rw [List.length_range] at this; omega)
     rw [List.length_range] at h1
     have : p.Rules.length * 200 ≤ 200 * 200 := Nat.mul_le_mul_right _ hl
     omega
   have hnl := flatMap_len (neverAt p) 1 (List.range p.Rules.length) (fun a _ => neverAt_len p a)
   have hil := flatMap_len (idleAt p) 1 (List.range p.Rules.length) (fun a _ => idleAt_len p a)
   rw [List.length_range] at hnl hil
   rw [concat_eq _ _ _ (by omega)]
   rfl
end Go.SX.Cl
