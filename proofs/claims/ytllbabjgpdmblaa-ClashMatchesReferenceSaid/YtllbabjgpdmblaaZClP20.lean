/- Parts of the proof. -/
import Derived.Test.YtllbabjgpdmblaaZClP18
import Derived.Test.YtllbabjgpdmblaaZClP14
import Derived.Test.YtllbabjgpdmblaaZCl31
import Derived.Test.YtllbabjgpdmblaaZCl13
import Derived.Test.YtllbabjgpdmblaaZCl3
set_option linter.unusedSimpArgs false
set_option linter.unusedVariables false
namespace Go.SX.Cl
open Go Go.SX Go.SX.ClP
noncomputable def cellsTo (p : Policy) : Nat → List (A10 Int)
 | 0 => [zeroF]
 | a + 1 => (cellsTo p a).flatMap fun f => (startsS p a).map fun c => f.put a c
theorem cellsTo_len (p : Policy) : ∀ a, (cellsTo p a).length = cellsN p a
 | 0 => rfl
 | a + 1 => by
   have h : ∀ l : List (A10 Int), (l.flatMap fun f => (startsS p a).map fun c => f.put a c).length = l.length * (startsS p a).length := by
     intro l
     induction l with
     | nil => simp
     | cons x l ih => rw [List.flatMap_cons, List.length_append, ih]; simp [Nat.succ_mul]; omega
   rw [cellsTo, h, cellsTo_len p a]; rfl
theorem zeroF_get (j : Nat) : zeroF.get j = 0 := by
 match j with
 | 0 | 1 | 2 | 3 | 4 | 5 | 6 | 7 | 8 | 9 => rfl
 | n + 10 => rfl
theorem mem_cellsTo (p : Policy) : ∀ (a : Nat) (f : A10 Int), a ≤ 10 → f ∈ cellsTo p a → (∀ j, j < a → f.get j ∈ startsS p j) ∧ ∀ j, a ≤ j → j < 10 → f.get j = 0
 | 0, f, _, h => by
   simp only [cellsTo, List.mem_singleton] at h
   subst h
   exact ⟨fun j hj => by omega, fun j _ _ => zeroF_get j⟩
 | a + 1, f, ha, h => by
   simp only [cellsTo, List.mem_flatMap, List.mem_map] at h
   obtain ⟨g, hg, c, hc, rfl⟩ := h
   obtain ⟨h1, h2⟩ := mem_cellsTo p a g (by omega) hg
   refine ⟨fun j hj => ?_, fun j hj hj' => ?_⟩
   · rw [A10.get_put _ _ _ _ (by omega) (by omega)]
     split
     · rename_i e; subst e; exact hc
     · exact h1 j (by omega)
   · rw [A10.get_put _ _ _ _ (by omega) (by omega), if_neg (by omega)]
     exact h2 j (by omega) hj'
theorem in_cellsTo (p : Policy) : ∀ (a : Nat) (f : A10 Int), a ≤ 10 → (∀ j, j < a → f.get j ∈ startsS p j) → (∀ j, a ≤ j → j < 10 → f.get j = 0) → f ∈ cellsTo p a
 | 0, f, _, _, h => by
   simp only [cellsTo, List.mem_singleton]
   exact A10.ext_get fun j hj => by rw [zeroF_get]; exact h j (Nat.zero_le _) hj
 | a + 1, f, ha, h1, h2 => by
   simp only [cellsTo, List.mem_flatMap, List.mem_map]
   refine ⟨f.put a 0, in_cellsTo p a _ (by omega) (fun j hj => ?_) (fun j hj hj' => ?_), f.get a, h1 a (by omega), A10.ext_get fun j hj => ?_⟩
   · rw [A10.get_put _ _ _ _ (by omega) (by omega), if_neg (by omega)]; exact h1 j (by omega)
   · rw [A10.get_put _ _ _ _ (by omega) (by omega)]
     split
     · rfl
     · exact h2 j (by omega) hj'
   · rw [A10.get_put _ _ _ _ (by omega) hj, A10.get_put _ _ _ _ (by omega) hj]
     split
     · rename_i e; rw [e]
     · rfl
theorem cells_sorted (p : Policy) : ∀ a, a ≤ 10 → (cellsTo p a).Pairwise fun f g => lexLt 0 f.get g.get
 | 0, _ => by simp [cellsTo]
 | a + 1, ha => by
   rw [cellsTo, List.pairwise_flatMap]
   refine ⟨fun f hf => ?_, (cells_sorted p a (by omega)).imp_of_mem fun {f g} hf hg hfg => ?_⟩
   · rw [List.pairwise_map]
     refine (startsS_sorted p a).imp fun {c d} hcd => ⟨a, Nat.zero_le _, by omega, fun j _ hj => ?_, ?_⟩
     · rw [A10.get_put _ _ _ _ (by omega) (by omega), A10.get_put _ _ _ _ (by omega) (by omega), if_neg (by omega), if_neg (by omega)]
     · rw [A10.get_put _ _ _ _ (by omega) (by omega), A10.get_put _ _ _ _ (by omega) (by omega), if_pos rfl, if_pos rfl]; exact hcd
   · intro x hx y hy
     simp only [List.mem_map] at hx hy
     obtain ⟨c, _, rfl⟩ := hx
     obtain ⟨d, _, rfl⟩ := hy
     obtain ⟨n, h1, h2, h3, h4⟩ := hfg
     have hn : n < a := by
       rcases Nat.lt_or_ge n a with h | h
       · exact h
       · have e1 := (mem_cellsTo p a f (by omega) hf).2 n h h2
         have e2 := (mem_cellsTo p a g (by omega) hg).2 n h h2
         omega
     refine ⟨n, h1, h2, fun j _ hj => ?_, ?_⟩
     · rw [A10.get_put _ _ _ _ (by omega) (by omega), A10.get_put _ _ _ _ (by omega) (by omega), if_neg (by omega), if_neg (by omega)]; exact h3 j (Nat.zero_le _) hj
     · rw [A10.get_put _ _ _ _ (by omega) (by omega), A10.get_put _ _ _ _ (by omega) (by omega), if_neg (by omega), if_neg (by omega)]; exact h4
def A10.of (h : Nat → Int) : A10 Int := ⟨h 0, h 1, h 2, h 3, h 4, h 5, h 6, h 7, h 8, h 9⟩
theorem A10.of_get (h : Nat → Int) (j : Nat) (hj : j < 10) : (A10.of h).get j = h j := by
 match j, hj with
 | 0, _ | 1, _ | 2, _ | 3, _ | 4, _ | 5, _ | 6, _ | 7, _ | 8, _ | 9, _ => rfl
theorem mem_startsS {p : Policy} {a : Nat} {c : Int} : c ∈ startsS p a ↔ c = (limZ.get a).Lo ∨ ∃ r ∈ p.Rules, ∃ z ∈ r.Zones, c = (z.get a).Lo ∨ ((z.get a).Hi < (limZ.get a).Hi ∧ c = (z.get a).Hi + 1) := by
 unfold startsS
 rw [mem_addRs]
 simp
theorem cell_in {p : Policy} (G : Good p) {f : A10 Int} (h : f ∈ cellsTo p 10) : inZ limZ f = true := by
 rw [inZ_iff]
 intro j hj
 have h1 := (mem_cellsTo p 10 f (by omega) h).1 j hj
 have hl := lim_ok j hj
 rcases mem_startsS.1 h1 with h2 | ⟨r, hr, z, hz, h2⟩
 · omega
 · have := G.zone r hr z hz j hj
   rcases h2 with h2 | h2 <;> omega
theorem rep {p : Policy} {f : A10 Int} (hf : inZ limZ f = true) : ∃ g ∈ cellsTo p 10, (∀ j, j < 10 → g.get j ≤ f.get j) ∧ ∀ r ∈ p.Rules, holds r g = holds r f := by
 have hw := inZ_iff.1 hf
 have hex : ∀ j, ∃ c, j < 10 → c ∈ startsS p j ∧ c ≤ f.get j ∧ ∀ c' ∈ startsS p j, c' ≤ f.get j → c' ≤ c := fun j => by
   by_cases hj : j < 10
   · obtain ⟨m, k1, k2⟩ := exists_max ((startsS p j).filter fun c => decide (c ≤ f.get j)) (by
       intro h
       have : (limZ.get j).Lo ∈ (startsS p j).filter fun c => decide (c ≤ f.get j) := List.mem_filter.2 ⟨mem_startsS.2 (.inl rfl), by simpa using (hw j hj).1⟩
       rw [h] at this; simp at this)
     obtain ⟨k3, k4⟩ := List.mem_filter.1 k1
     exact ⟨m, fun _ => ⟨k3, by simpa using k4, fun c' h2 h3 => k2 c' (List.mem_filter.2 ⟨h2, by simpa using h3⟩)⟩⟩
   · exact ⟨0, fun h => (hj h).elim⟩
 let h : Nat → Int := fun j => Classical.choose (hex j)
 have hh : ∀ j, j < 10 → h j ∈ startsS p j ∧ h j ≤ f.get j ∧ ∀ c' ∈ startsS p j, c' ≤ f.get j → c' ≤ h j := fun j hj => Classical.choose_spec (hex j) hj
 have hg : ∀ j, j < 10 → (A10.of h).get j = h j := A10.of_get h
 refine ⟨A10.of h, in_cellsTo p 10 _ (by omega) (fun j hj => by rw [hg j hj]; exact (hh j hj).1) (fun j h1 h2 => by omega), fun j hj => by rw [hg j hj]; exact (hh j hj).2.1, fun r hr => ?_⟩
 have key : ∀ z ∈ r.Zones, inZ z (A10.of h) = inZ z f := fun z hz => by
   rw [Bool.eq_iff_iff, inZ_iff, inZ_iff]
   refine forall_congr' fun j => forall_congr' fun hj => ?_
   rw [hg j hj]
   obtain ⟨e1, e2, e3⟩ := hh j hj
   have hlo := e3 (z.get j).Lo (mem_startsS.2 (.inr ⟨r, hr, z, hz, .inl rfl⟩))
   have hwj := hw j hj
   constructor
   · rintro ⟨m1, m2⟩
     refine ⟨by omega, ?_⟩
     by_cases hlt : (z.get j).Hi < f.get j
     · have := e3 ((z.get j).Hi + 1) (mem_startsS.2 (.inr ⟨r, hr, z, hz, .inr ⟨by omega, rfl⟩⟩)) (by omega)
       omega
     · omega
   · rintro ⟨m1, m2⟩
     exact ⟨hlo m1, by omega⟩
 unfold holds
 rw [Bool.eq_iff_iff, List.any_eq_true, List.any_eq_true]
 constructor
 · rintro ⟨z, hz, h1⟩; exact ⟨z, hz, by rw [← key z hz]; exact h1⟩
 · rintro ⟨z, hz, h1⟩; exact ⟨z, hz, by rw [key z hz]; exact h1⟩
theorem first_least {p : Policy} (G : Good p) {P : A10 Int → Prop} (hP : ∀ f g, (∀ r ∈ p.Rules, holds r g = holds r f) → P f → P g) {k : Nat} {x : A10 Int}
   (h1 : (cellsTo p 10)[k]? = some x) (h2 : P x) (h3 : ∀ (j : Nat) y, j < k → (cellsTo p 10)[j]? = some y → ¬ P y) : leastO P = some x := by
 refine leastO_some ⟨cell_in G (List.mem_of_getElem? h1), h2, fun f hf hlt hPf => ?_⟩
 obtain ⟨g, hg, hle, hh⟩ := rep (p := p) hf
 have hPg := hP f g hh hPf
 obtain ⟨m, hm⟩ := List.getElem?_of_mem hg
 have hmk : k ≤ m := Nat.le_of_not_lt fun h => h3 m g h hm hPg
 have hle' : ¬ lexLt 0 f.get g.get := not_lex_of_le fun j _ hj => hle j hj
 rcases Nat.lt_or_eq_of_le hmk with h | h
 · have hk := (List.getElem?_eq_some_iff.1 h1)
   have hm' := (List.getElem?_eq_some_iff.1 hm)
   have := List.pairwise_iff_getElem.1 (cells_sorted p 10 (by omega)) k m hk.1 hm'.1 h
   rw [hk.2, hm'.2] at this
   exact hle' (lex_trans hlt this)
 · subst h
   rw [h1] at hm; cases hm
   exact hle' hlt
theorem none_least {p : Policy} {P : A10 Int → Prop} (hP : ∀ f g, (∀ r ∈ p.Rules, holds r g = holds r f) → P f → P g) (h : ∀ x ∈ cellsTo p 10, ¬ P x) : leastO P = none :=
 leastO_none fun f hf hp => by
   obtain ⟨g, hg, _, hh⟩ := rep (p := p) hf
   exact h g hg (hP f g hh hp)
end Go.SX.Cl
namespace Go.SX.Cl
open Go Go.SX Go.SX.ClP
theorem foldl_app {α β : Type} (g : α → β) : ∀ (l : List α) (s : List β), l.foldl (fun s c => s ++ [g c]) s = s ++ l.map g
 | [], s => by simp
 | x :: l, s => by rw [List.foldl_cons, foldl_app g l]; simp
theorem foldl_flat {α β : Type} (g : α → List β) : ∀ (l : List α) (s : List β), l.foldl (fun s c => s ++ g c) s = s ++ l.flatMap g
 | [], s => by simp
 | x :: l, s => by rw [List.foldl_cons, foldl_flat g l]; simp
theorem facts_inner (l6 : List Int) (out3 : List (A10 Int)) (i : Nat) (f : A10 Int) (hf : out3[i]? = some f) (a : Nat) (ha : a < 10) (next : List (A10 Int)) (hb : next.length + l6.length ≤ 1000000) :
   whileG (ref16_Facts_l170 l6 out3 (a : Int)) (next, (i : Int), 0) = some (next ++ l6.map (fun c => f.put a c), (i : Int)) := by
 rw [← foldl_app]
 refine loop_fold (step := ref16_Facts_l170 l6 out3 (a : Int)) (fun (s : List (A10 Int)) k => (s, (i : Int), k)) l6 (fun s c => s ++ [f.put a c]) next _ (fun k c hk => ?_) (by simp [ref16_Facts_l170, io_lt, io_len])
 have hkl : k < l6.length := (List.getElem?_eq_some_iff.1 hk).1
 have hlt : (k : Int) < l6.length := by omega
 have hil : i < out3.length := (List.getElem?_eq_some_iff.1 hf).1
 have hr : rixG out3 (i : Int) = some i := by unfold rixG; rw [if_pos (by omega)]; simp
 rw [foldl_app]
 have hs : (next ++ (l6.take k).map fun c => f.put a c).length ≤ 1000000 := by
   rw [List.length_append, List.length_map, List.length_take]; omega
 generalize (next ++ (l6.take k).map fun c => f.put a c) = s at hs
 have happ : appG s [f.put a c] = some (s ++ [f.put a c]) := appG_some (by simp; omega)
 simp only [ref16_Facts_l170, io_lt, io_len, hlt, decide_true, cond_true, hr, hf, Option.bind_some, idxG_some hk, pixG_some ha, happ, io_add, wr_up (k := k) (by omega)]
theorem facts_mid (l6 : List Int) (out3 : List (A10 Int)) (a : Nat) (ha : a < 10) (hb : out3.length * l6.length ≤ 500000) (h6 : l6.length ≤ 100000) (h3 : out3.length ≤ 100000) :
   whileG (ref16_Facts_l168 out3 l6 (a : Int)) ([], 0) = some (out3.flatMap fun f => l6.map fun c => f.put a c) := by
 have hnil : (out3.flatMap fun f => l6.map fun c => f.put a c) = out3.foldl (fun s f => s ++ l6.map fun c => f.put a c) [] := by rw [foldl_flat]; simp
 rw [hnil]
 refine loop_fold (step := ref16_Facts_l168 out3 l6 (a : Int)) (fun (s : List (A10 Int)) k => (s, k)) out3 (fun s f => s ++ l6.map fun c => f.put a c) [] _ (fun k x hx => ?_) (by simp [ref16_Facts_l168, io_lt, io_len])
 have hk : k < out3.length := (List.getElem?_eq_some_iff.1 hx).1
 have hlt : (k : Int) < out3.length := by omega
 rw [foldl_flat]
 have hs : ([] ++ (out3.take k).flatMap fun (f : A10 Int) => l6.map fun c => f.put a c).length ≤ 500000 := by
   have h1 := flatMap_len (fun f : A10 Int => l6.map fun c => f.put a c) l6.length (out3.take k) (fun f _ => by simp)
   have h2 : (out3.take k).length ≤ out3.length := by rw [List.length_take]; omega
   have h4 := Nat.mul_le_mul_right l6.length h2
   rw [List.nil_append]; omega
 generalize ([] ++ (out3.take k).flatMap fun (f : A10 Int) => l6.map fun c => f.put a c) = s at hs ⊢
 simp only [ref16_Facts_l168, io_lt, io_len, hlt, decide_true, cond_true, facts_inner l6 out3 k x hx a ha s (by omega), Option.bind_some, io_add, wr_up (k := k) (by omega)]
theorem Facts_eq {p : Policy} {n : Int} (S : Small p n) (I : Ints p) : ref16_Facts_g p = some (cellsTo p 10) := by
 unfold ref16_Facts_g
 obtain ⟨t, h1, h2⟩ := loop_up (step := ref16_Facts_l142 p) (fun (s : List (A10 Int)) i => (s, i)) 10 (fun k s => s = cellsTo p k) (fun t => t = cellsTo p 10) (fun a s ha hI => by
   have hlt : (a : Int) < 10 := by omega
   have c1 := S.cells a (by omega)
   have c2 := S.cells (a + 1) (by omega)
   have c3 := startsS_len S.few a
   have c4 : cellsN p (a + 1) = cellsN p a * (startsS p a).length := rfl
   refine .inl ⟨cellsTo p (a + 1), ?_, rfl⟩
   subst hI
   have hl := cellsTo_len p a
   simp only [ref16_Facts_l142, io_lt, hlt, decide_true, cond_true, starts_eq S.few I a ha, Option.bind_some, facts_mid (startsS p a) (cellsTo p a) a ha (by rw [hl]; omega) (by omega) (by omega), io_add, wr_up (k := a) (by omega)]
   rfl) (fun s hI => ⟨s, by simp [ref16_Facts_l142, io_lt], hI⟩) [zeroF] rfl
 have h0 : ([A10.mk (0 : Int) 0 0 0 0 0 0 0 0 0]) = [zeroF] := rfl
 simp only [Option.bind_some, h0, h1, h2]
theorem rule_idx {p : Policy} {a : Nat} (h : a < p.Rules.length) : p.Rules[a]? = some (ruleAt p a) := by
 simp [ruleAt, h]
theorem ruleAt_mem {p : Policy} {a : Nat} (h : a < p.Rules.length) : ruleAt p a ∈ p.Rules := List.mem_of_getElem? (rule_idx h)
theorem both_congr {p : Policy} {a b : Nat} (ha : a < p.Rules.length) (hb : b < p.Rules.length) : ∀ f g : A10 Int, (∀ r ∈ p.Rules, holds r g = holds r f) → (holds (ruleAt p a) f = true ∧ holds (ruleAt p b) f = true) → holds (ruleAt p a) g = true ∧ holds (ruleAt p b) g = true :=
 fun f g h ⟨h1, h2⟩ => ⟨by rw [h _ (ruleAt_mem ha)]; exact h1, by rw [h _ (ruleAt_mem hb)]; exact h2⟩
noncomputable def firstB (p : Policy) (a b : Nat) : A10 Int × Bool := match leastO fun f => holds (ruleAt p a) f = true ∧ holds (ruleAt p b) f = true with | some g => (g, true) | none => (zeroF, false)
theorem rFirst_eq {p : Policy} (G : Good p) {n : Int} (S : Small p n) {a b : Nat} (ha : a < p.Rules.length) (hb : b < p.Rules.length) : ref16_First_g p (a : Int) (b : Int) (cellsTo p 10) = some (firstB p a b) := by
 have hl : (cellsTo p 10).length ≤ 3000 := by rw [cellsTo_len]; exact S.cells 10 (by omega)
 have hza : (ruleAt p a).Zones.length ≤ 1000000 := by have := G.zones _ (ruleAt_mem ha); omega
 have hzb : (ruleAt p b).Zones.length ≤ 1000000 := by have := G.zones _ (ruleAt_mem hb); omega
 unfold ref16_First_g
 rcases loop_find (step := ref16_First_l2 (cellsTo p 10) p a b) (cellsTo p 10) (fun x => holds (ruleAt p a) x && holds (ruleAt p b) x) (fun _ x => .inr (x, true)) (.inl ()) (fun k x hx => by
   have hk : k < (cellsTo p 10).length := (List.getElem?_eq_some_iff.1 hx).1
   have hlt : (k : Int) < (cellsTo p 10).length := by omega
   simp only [ref16_First_l2, io_lt, io_len, hlt, decide_true, cond_true, idxG_some (rule_idx ha), idxG_some (rule_idx hb), idxG_some hx, Option.bind_some, rHolds_eq _ _ hza, rHolds_eq _ _ hzb, io_add, wr_up (k := k) (by omega)]
   cases holds (ruleAt p a) x <;> cases holds (ruleAt p b) x <;> simp) (by simp [ref16_First_l2, io_lt, io_len]) with ⟨k, x, h1, h2, h3, h4⟩ | ⟨h1, h2⟩
 · have hL := first_least G (both_congr ha hb) h1 (by simpa using h2) (fun j y hj hy hP => by
     have := h3 j y hj hy
     rw [hP.1, hP.2] at this; cases this)
   rw [h4]; unfold firstB; rw [hL]; rfl
 · have hL := none_least (both_congr ha hb) (fun x hx hP => by
     have := h1 x hx
     rw [hP.1, hP.2] at this; cases this)
   rw [h2]; unfold firstB; rw [hL]; rfl
theorem rIdle_eq {p : Policy} (G : Good p) {n : Int} (S : Small p n) {a : Nat} (ha : a < p.Rules.length) : ∃ b, ref16_Idle_g p (a : Int) (cellsTo p 10) = some b ∧
   (b = true ↔ ∀ f, inZ limZ f = true → holds (ruleAt p a) f = true → likeB (decS p f) (decS (without p a) f) = true) := by
 have hl : (cellsTo p 10).length ≤ 3000 := by rw [cellsTo_len]; exact S.cells 10 (by omega)
 have hr := G.rules
 have hz : ∀ r ∈ p.Rules, r.Zones.length ≤ 1000000 := fun r hr => by have := G.zones r hr; omega
 have G' := G.without a
 have hr' := G'.rules
 have hz' : ∀ r ∈ (without p a).Rules, r.Zones.length ≤ 1000000 := fun r hr => by have := G'.zones r hr; omega
 unfold ref16_Idle_g
 rw [Without_eq ha (by omega)]
 simp only [Option.bind_some]
 rw [loop_any (step := ref16_Idle_l2 (cellsTo p 10) p (without p a)) (cellsTo p 10) (fun x => !likeB (decS p x) (decS (without p a) x)) (.inr false) (.inl ()) (fun k x hx => by
   have hk : k < (cellsTo p 10).length := (List.getElem?_eq_some_iff.1 hx).1
   have hlt : (k : Int) < (cellsTo p 10).length := by omega
   simp only [ref16_Idle_l2, io_lt, io_len, hlt, decide_true, cond_true, idxG_some hx, Option.bind_some, rDecide_eq p x (by omega) hz, rDecide_eq (without p a) x (by omega) hz', Like_eq, io_not, io_add, wr_up (k := k) (by omega)]
   cases likeB (decS p x) (decS (without p a) x) <;> rfl) (by simp [ref16_Idle_l2, io_lt, io_len])]
 cases hany : (cellsTo p 10).any fun x => !likeB (decS p x) (decS (without p a) x) with
 | true =>
   refine ⟨false, rfl, ⟨fun h => (by cases h), fun h => ?_⟩⟩
   obtain ⟨x, hx, hb⟩ := List.any_eq_true.1 hany
   have hin := cell_in G hx
   have : likeB (decS p x) (decS (without p a) x) = true := by
     cases hh : holds (ruleAt p a) x with
     | true => exact h x hin hh
     | false => exact like_without hh
   rw [this] at hb; cases hb
 | false =>
   refine ⟨true, rfl, ⟨fun _ f hf _ => ?_, fun _ => rfl⟩⟩
   obtain ⟨g, hg, _, hh⟩ := rep (p := p) hf
   have := (List.any_eq_false.1 hany) g hg
   have e1 : decS p g = decS p f := decS_congr hh
   have e2 : decS (without p a) g = decS (without p a) f := decS_congr fun r hr => hh r (mem_without hr)
   rw [e1, e2] at this
   simpa using this
theorem rnever_loop {p : Policy} (hr : p.Rules.length ≤ 1000) : whileG (ref16_Findings_l2 p) ([], 0) = some ((List.range p.Rules.length).flatMap (neverAt p)) := by
 obtain ⟨t, h1, h2⟩ := loop_up (step := ref16_Findings_l2 p) (fun (s : List Finding) i => (s, i)) p.Rules.length (fun k s => s = (List.range k).flatMap (neverAt p)) (fun t => t = (List.range p.Rules.length).flatMap (neverAt p)) (fun k s hk hI => by
   have hx := rule_idx hk
   have hlt : (k : Int) < p.Rules.length := by omega
   have hn := flatMap_len (neverAt p) 1 (List.range k) (fun a _ => neverAt_len p a)
   rw [List.length_range] at hn
   subst hI
   refine .inl ⟨(List.range k).flatMap (neverAt p) ++ neverAt p k, ?_, (range_flat _ _).symm⟩
   generalize (List.range k).flatMap (neverAt p) = s at hn
   simp only [ref16_Findings_l2, io_lt, io_len, hlt, decide_true, cond_true, idxG_some hx, Option.bind_some, io_eqi, io_add, wr_up (k := k) (by omega)]
   unfold neverAt
   by_cases hz : (ruleAt p k).Zones = []
   · have ha : appG s [(⟨1, (k : Int), -1, ⟨0, 0, 0, 0, 0, 0, 0, 0, 0, 0⟩⟩ : Finding)] = some (s ++ [⟨1, (k : Int), -1, ⟨0, 0, 0, 0, 0, 0, 0, 0, 0, 0⟩⟩]) := appG_some (by simp; omega)
     simp only [hz, List.length_nil, Int.ofNat_zero, decide_true, cond_true, ha, Option.bind_some, if_true]
     rfl
   · have hz0 : ¬ (((ruleAt p k).Zones.length : Int) = 0) := fun h => hz (List.eq_nil_of_length_eq_zero (by omega))
     simp only [hz, hz0, decide_false, cond_false, Option.bind_some, if_false, List.append_nil]) (fun s hI => ⟨s, by simp [ref16_Findings_l2, io_lt, io_len], hI⟩) [] rfl
 rw [h1, h2]
theorem ridle_loop {p : Policy} (G : Good p) {n : Int} (S : Small p n) (out : List Finding) (ho : out.length ≤ 1000000) : whileG (ref16_Findings_l4 p (cellsTo p 10)) (out, 0) = some (out ++ (List.range p.Rules.length).flatMap (idleAt p)) := by
 have hr := G.rules
 obtain ⟨t, h1, h2⟩ := loop_up (step := ref16_Findings_l4 p (cellsTo p 10)) (fun (s : List Finding) i => (s, i)) p.Rules.length (fun k s => s = out ++ (List.range k).flatMap (idleAt p)) (fun t => t = out ++ (List.range p.Rules.length).flatMap (idleAt p)) (fun k s hk hI => by
   have hx := rule_idx hk
   have hlt : (k : Int) < p.Rules.length := by omega
   have hn := flatMap_len (idleAt p) 1 (List.range k) (fun a _ => idleAt_len p a)
   rw [List.length_range] at hn
   subst hI
   refine .inl ⟨out ++ (List.range k).flatMap (idleAt p) ++ idleAt p k, ?_, by rw [range_flat, List.append_assoc]⟩
   have hs : (out ++ (List.range k).flatMap (idleAt p)).length ≤ 2000000 := by rw [List.length_append]; omega
   generalize out ++ (List.range k).flatMap (idleAt p) = s at hs
   obtain ⟨b, i1, i2⟩ := rIdle_eq G S hk
   simp only [ref16_Findings_l4, io_lt, io_len, hlt, decide_true, cond_true, idxG_some hx, Option.bind_some, io_add, wr_up (k := k) (by omega), i1]
   by_cases hz : (ruleAt p k).Zones = []
   · have hz0 : ¬ ((0 : Int) < (ruleAt p k).Zones.length) := by rw [hz]; simp
     have hiA : idleAt p k = [] := by unfold idleAt; rw [if_neg fun h => h.1 hz]
     simp only [hz0, decide_false, cond_false, Option.bind_some, hiA, List.append_nil]
   · have hz0 : (0 : Int) < (ruleAt p k).Zones.length := by
       have : (ruleAt p k).Zones.length ≠ 0 := fun h => hz (List.eq_nil_of_length_eq_zero h)
       omega
     simp only [hz0, decide_true, cond_true, Option.bind_some]
     cases b with
     | false =>
       have hiA : idleAt p k = [] := by
         unfold idleAt
         rw [if_neg]
         rintro ⟨_, h⟩
         have := i2.2 h; cases this
       simp only [cond_false, Option.bind_some, hiA, List.append_nil]
     | true =>
       have hiA : idleAt p k = [⟨2, (k : Int), -1, (leastO fun f => holds (ruleAt p k) f = true).getD zeroF⟩] := by
         unfold idleAt
         rw [if_pos ⟨hz, i2.1 rfl⟩]
       have hfst : (firstB p k k).1 = (leastO fun f => holds (ruleAt p k) f = true).getD zeroF := by
         unfold firstB
         have hP : (fun f => holds (ruleAt p k) f = true ∧ holds (ruleAt p k) f = true) = fun f => holds (ruleAt p k) f = true := by funext f; simp
         rw [hP]
         cases leastO fun f => holds (ruleAt p k) f = true <;> rfl
       have happ := appG_some (xs := s) (ys := [(⟨2, (k : Int), -1, (leastO fun f => holds (ruleAt p k) f = true).getD zeroF⟩ : Finding)]) (by simp; omega)
       simp only [cond_true, rFirst_eq G S hk hk, Option.bind_some, hfst, happ, hiA]) (fun s hI => ⟨s, by simp [ref16_Findings_l4, io_lt, io_len], hI⟩) out (by simp)
 rw [h1, h2]
theorem rcont_inner {p : Policy} (G : Good p) {n : Int} (S : Small p n) {a : Nat} (ha : a < p.Rules.length) (out : List Finding) (ho : out.length ≤ 2000000) :
   whileG (ref16_Findings_l18 p (a : Int) (cellsTo p 10)) (out, 0) = some (out ++ (List.range p.Rules.length).flatMap (contAt p a)) := by
 have hr := G.rules
 obtain ⟨t, h1, h2⟩ := loop_up (step := ref16_Findings_l18 p (a : Int) (cellsTo p 10)) (fun (s : List Finding) i => (s, i)) p.Rules.length (fun k s => s = out ++ (List.range k).flatMap (contAt p a)) (fun t => t = out ++ (List.range p.Rules.length).flatMap (contAt p a)) (fun k s hk hI => by
   have hx := rule_idx hk
   have hlt : (k : Int) < p.Rules.length := by omega
   have hn := flatMap_len (contAt p a) 1 (List.range k) (fun b _ => contAt_len p a b)
   rw [List.length_range] at hn
   subst hI
   refine .inl ⟨out ++ (List.range k).flatMap (contAt p a) ++ contAt p a k, ?_, by rw [range_flat, List.append_assoc]⟩
   have hs : (out ++ (List.range k).flatMap (contAt p a)).length ≤ 3000000 := by rw [List.length_append]; omega
   generalize out ++ (List.range k).flatMap (contAt p a) = s at hs
   simp only [ref16_Findings_l18, io_lt, io_len, hlt, decide_true, cond_true, idxG_some (rule_idx ha), idxG_some hx, Option.bind_some, io_eqi, io_add, wr_up (k := k) (by omega)]
   by_cases h1 : (ruleAt p a).Kind = 1
   · by_cases h2 : (ruleAt p k).Kind = 2
     · simp only [h1, h2, decide_true, cond_true, Option.bind_some, rFirst_eq G S ha hk]
       unfold contAt firstB
       rw [if_pos ⟨h1, h2⟩]
       cases hL : leastO fun f => holds (ruleAt p a) f = true ∧ holds (ruleAt p k) f = true with
       | none => simp
       | some g =>
         have happ := appG_some (xs := s) (ys := [(⟨3, (a : Int), (k : Int), g⟩ : Finding)]) (by simp; omega)
         simp [happ]
     · have hc : contAt p a k = [] := by unfold contAt; rw [if_neg fun h => h2 h.2]
       simp only [h1, h2, decide_true, decide_false, cond_true, cond_false, Option.bind_some, hc, List.append_nil]
   · have hc : contAt p a k = [] := by unfold contAt; rw [if_neg fun h => h1 h.1]
     simp only [h1, decide_false, cond_false, Option.bind_some, hc, List.append_nil]) (fun s hI => ⟨s, by simp [ref16_Findings_l18, io_lt, io_len], hI⟩) out (by simp)
 rw [h1, h2]
theorem rcont_loop {p : Policy} (G : Good p) {n : Int} (S : Small p n) (out : List Finding) (ho : out.length ≤ 10000) :
   whileG (ref16_Findings_l16 p (cellsTo p 10)) (out, 0) = some (out ++ (List.range p.Rules.length).flatMap fun a => (List.range p.Rules.length).flatMap (contAt p a)) := by
 have hr := G.rules
 obtain ⟨t, h1, h2⟩ := loop_up (step := ref16_Findings_l16 p (cellsTo p 10)) (fun (s : List Finding) i => (s, i)) p.Rules.length (fun k s => s = out ++ (List.range k).flatMap fun a => (List.range p.Rules.length).flatMap (contAt p a))
   (fun t => t = out ++ (List.range p.Rules.length).flatMap fun a => (List.range p.Rules.length).flatMap (contAt p a)) (fun k s hk hI => by
   have hlt : (k : Int) < p.Rules.length := by omega
   have hn := flatMap_len (fun a => (List.range p.Rules.length).flatMap (contAt p a)) 1000 (List.range k) (fun a _ => by
     have := flatMap_len (contAt p a) 1 (List.range p.Rules.length) (fun b _ => contAt_len p a b)
     rw [List.length_range] at this; omega)
   rw [List.length_range] at hn
   subst hI
   refine .inl ⟨_, ?_, by rw [range_flat, ← List.append_assoc]⟩
   have hs : (out ++ (List.range k).flatMap fun a => (List.range p.Rules.length).flatMap (contAt p a)).length ≤ 2000000 := by
     have : k * 1000 ≤ 1000 * 1000 := Nat.mul_le_mul_right _ (by omega)
     rw [List.length_append]; omega
   generalize (out ++ (List.range k).flatMap fun a => (List.range p.Rules.length).flatMap (contAt p a)) = s at hs
   simp only [ref16_Findings_l16, io_lt, io_len, hlt, decide_true, cond_true, rcont_inner G S hk s (by omega), Option.bind_some, io_add, wr_up (k := k) (by omega)]) (fun s hI => ⟨s, by simp [ref16_Findings_l16, io_lt, io_len], hI⟩) out (by simp)
 rw [h1, h2]
theorem rFindings_eq {p : Policy} {n : Int} (S : Small p n) (I : Ints p) : ref16_Findings_g p = some (if validB p then findS p else []) := by
 unfold ref16_Findings_g
 rw [rValid_eq]
 simp only [Option.bind_some, io_not]
 cases hv : validB p with
 | false => rfl
 | true =>
   have G := Good.of_valid hv
   have hr := G.rules
   have hn := flatMap_len (neverAt p) 1 (List.range p.Rules.length) (fun a _ => neverAt_len p a)
   have hi := flatMap_len (idleAt p) 1 (List.range p.Rules.length) (fun a _ => idleAt_len p a)
   rw [List.length_range] at hn hi
   have e2 := ridle_loop G S ((List.range p.Rules.length).flatMap (neverAt p)) (by omega)
   have e3 := rcont_loop G S ((List.range p.Rules.length).flatMap (neverAt p) ++ (List.range p.Rules.length).flatMap (idleAt p)) (by rw [List.length_append]; omega)
   simp only [Bool.not_true, cond_false, Facts_eq S I, Option.bind_some, rnever_loop hr, e2, e3, if_true]
   unfold findS
   rw [List.append_assoc]
theorem matches_ok (p : Policy) (I : Ints p) : law16_ClashMatchesReference_g p = some true := by
 unfold law16_ClashMatchesReference_g
 obtain ⟨b, h1, h2⟩ := few_eq p I 10 (by omega)
 rw [head_eq, h1]
 simp only [Option.bind_some, io_not]
 cases b with
 | false => rfl
 | true =>
   have S := h2 rfl
   have hlen : (if validB p then findS p else []).length ≤ 1000000 := by
     cases hv : validB p with
     | true => simpa using find_len hv
     | false => simp
   simp only [Bool.not_true, cond_false, cond_true, Findings_eq, rFindings_eq S I, Option.bind_some, Same_refl _ hlen]
end Go.SX.Cl
