/- Parts of the proof. -/
import Derived.Test.YtllbabjgpdmblaaYClP16
namespace Go.SX.Cl
open Go Go.SX Go.SX.ClP
def dupR (l : List (A10 Range)) : List (A10 Range) := l.reverse.flatMap fun z => [z, z]
def mapR (r : Rule) : Rule := { r with Zones := dupR r.Zones }
def mapP (p : Policy) : Policy := ⟨p.Rules.map mapR⟩
theorem mem_dupR {l : List (A10 Range)} {z : A10 Range} : z ∈ dupR l ↔ z ∈ l := by
 unfold dupR
 rw [List.mem_flatMap]
 constructor
 · rintro ⟨y, hy, hz⟩
   have : z = y := by simpa using hz
   subst this; simpa using hy
 · intro h; exact ⟨z, by simpa using h, by simp⟩
theorem dupR_len (l : List (A10 Range)) : (dupR l).length = 2 * l.length := by
 unfold dupR
 have : ∀ l : List (A10 Range), (l.flatMap fun z => [z, z]).length = 2 * l.length := fun l => by
   induction l with
   | nil => rfl
   | cons z l ih => rw [List.flatMap_cons, List.length_append, ih]; simp; omega
 rw [this, List.length_reverse]
theorem dupR_nil {l : List (A10 Range)} : dupR l = [] ↔ l = [] := by
 constructor
 · intro h
   have := dupR_len l
   rw [h, List.length_nil] at this
   exact List.eq_nil_of_length_eq_zero (by omega)
 · rintro rfl; rfl
theorem holds_mapR (r : Rule) (f : A10 Int) : holds (mapR r) f = holds r f := by
 unfold holds mapR
 rw [Bool.eq_iff_iff, List.any_eq_true, List.any_eq_true]
 exact ⟨fun ⟨z, hz, h⟩ => ⟨z, mem_dupR.1 hz, h⟩, fun ⟨z, hz, h⟩ => ⟨z, mem_dupR.2 hz, h⟩⟩
theorem ruleAt_map (p : Policy) (a : Nat) : ruleAt (mapP p) a = mapR (ruleAt p a) := by
 unfold ruleAt mapP
 simp only [List.getElem?_map]
 cases p.Rules[a]? with
 | none => rfl
 | some r => rfl
theorem stepJ_map (f : A10 Int) (s : JS × Nat) (r : Rule) : stepJ f s (mapR r) = stepJ f s r := by
 unfold stepJ
 rw [holds_mapR]
 have : note s.1 s.2 (mapR r) = note s.1 s.2 r := rfl
 rw [this]
theorem foldJ_map (f : A10 Int) : ∀ (l : List Rule) (s : JS × Nat), (l.map mapR).foldl (stepJ f) s = l.foldl (stepJ f) s
 | [], s => rfl
 | r :: l, s => by rw [List.map_cons, List.foldl_cons, List.foldl_cons, stepJ_map, foldJ_map f l]
theorem decS_map (p : Policy) (f : A10 Int) : decS (mapP p) f = decS p f := by
 unfold decS mapP; simp only [foldJ_map]
theorem without_map (p : Policy) (a : Nat) : without (mapP p) a = mapP (without p a) := by
 unfold without mapP
 simp only [List.map_append, List.map_take, List.map_drop]
theorem fine_map (p : Policy) (hz : ∀ r ∈ p.Rules, r.Zones.length ≤ 30) (k : Nat) (r : Rule) (hr : r ∈ p.Rules) : fineAt (mapP p) k (mapR r) = fineAt p k r := by
 have h1 := hz r hr
 have h2 : numbersB (mapR r) = numbersB r := rfl
 have h3 : (mapR r).Zones.all withinZ = r.Zones.all withinZ := by
   rw [Bool.eq_iff_iff, List.all_eq_true, List.all_eq_true]
   exact ⟨fun h z hz => h z (mem_dupR.2 hz), fun h z hz => h z (mem_dupR.1 hz)⟩
 have h4 : ((mapP p).Rules.take k).any (fun q => decide (q.Name = (mapR r).Name)) = (p.Rules.take k).any fun q => decide (q.Name = r.Name) := by
   unfold mapP
   simp only [← List.map_take, List.any_map]
   rfl
 have h5 : (mapR r).Zones.length ≤ 200 := by show (dupR r.Zones).length ≤ 200; rw [dupR_len]; omega
 unfold fineAt
 rw [h2, h3, h4]
 simp [h5, show r.Zones.length ≤ 200 by omega]
theorem valid_map (p : Policy) (hz : ∀ r ∈ p.Rules, r.Zones.length ≤ 30) : validB (mapP p) = validB p := by
 have hl : (mapP p).Rules.length = p.Rules.length := by simp [mapP]
 cases hv : validB p with
 | true =>
   refine valid_of (by rw [hl]; simp only [validB, Bool.and_eq_true, decide_eq_true_eq] at hv; exact hv.1) fun k r hr => ?_
   simp only [mapP, List.getElem?_map, Option.map_eq_some_iff] at hr
   obtain ⟨r0, hr0, rfl⟩ := hr
   rw [fine_map p hz k r0 (List.mem_of_getElem? hr0)]
   exact valid_all hv hr0
 | false =>
   cases hv' : validB (mapP p) with
   | false => rfl
   | true =>
     have : validB p = true := by
       refine valid_of (by rw [← hl]; simp only [validB, Bool.and_eq_true, decide_eq_true_eq] at hv'; exact hv'.1) fun k r hr => ?_
       rw [← fine_map p hz k r (List.mem_of_getElem? hr)]
       exact valid_all hv' (by simp [mapP, hr])
     rw [this] at hv; cases hv
theorem find_map (p : Policy) : findS (mapP p) = findS p := by
 have hl : (mapP p).Rules.length = p.Rules.length := by simp [mapP]
 have hz : ∀ a, (ruleAt (mapP p) a).Zones = [] ↔ (ruleAt p a).Zones = [] := fun a => by rw [ruleAt_map]; exact dupR_nil
 have hh : ∀ a f, holds (ruleAt (mapP p) a) f = holds (ruleAt p a) f := fun a f => by rw [ruleAt_map, holds_mapR]
 have hk : ∀ a, (ruleAt (mapP p) a).Kind = (ruleAt p a).Kind := fun a => by rw [ruleAt_map]; rfl
 have h1 : neverAt (mapP p) = neverAt p := by
   funext a; unfold neverAt; simp only [hz]
 have h2 : idleAt (mapP p) = idleAt p := by
   funext a
   have hc : ((ruleAt (mapP p) a).Zones ≠ [] ∧ ∀ f, inZ limZ f = true → holds (ruleAt (mapP p) a) f = true → likeB (decS (mapP p) f) (decS (without (mapP p) a) f) = true) ↔ ((ruleAt p a).Zones ≠ [] ∧ ∀ f, inZ limZ f = true → holds (ruleAt p a) f = true → likeB (decS p f) (decS (without p a) f) = true) := by
     simp only [ne_eq, hz, hh, without_map, decS_map]
   unfold idleAt
   by_cases h : (ruleAt p a).Zones ≠ [] ∧ ∀ f, inZ limZ f = true → holds (ruleAt p a) f = true → likeB (decS p f) (decS (without p a) f) = true
   · rw [if_pos h, if_pos (hc.2 h)]; simp only [hh]
   · rw [if_neg h, if_neg fun h' => h (hc.1 h')]
 have h3 : ∀ a, contAt (mapP p) a = contAt p a := fun a => by
   funext b; unfold contAt
   simp only [hk, hh]
 unfold findS
 rw [hl, h1, h2]
 simp only [h3]
theorem zdown (p : Policy) (i : Nat) (r : Rule) (hr : p.Rules[i]? = some r) (hz : r.Zones.length ≤ 30) : ∀ (m : Nat) (acc : List (A10 Range)), m ≤ r.Zones.length → acc.length + 2 * m ≤ 1000 →
   whileG (law16_ClashZones_l26 p i) (acc, (m : Int) - 1) = some (acc ++ (r.Zones.take m).reverse.flatMap fun z => [z, z]) := by
 intro m
 induction m with
 | zero =>
   intro acc _ _
   rw [whileG_eq]
   simp [law16_ClashZones_l26, io_le]
 | succ m ih =>
   intro acc hm ha
   have hx : r.Zones[m]? = some r.Zones[m] := by simp
   have hge : (0 : Int) ≤ (m : Int) := by omega
   have e1 : ((m + 1 : Nat) : Int) - 1 = (m : Int) := by omega
   have hw : IntKind.i64.wrap ((m : Int) - 1) = (m : Int) - 1 := wr64 (by omega) (by omega)
   generalize r.Zones[m] = z at hx
   have happ : appG acc [z, z] = some (acc ++ [z, z]) := appG_some (by simp; omega)
   rw [whileG_eq, e1]
   simp only [law16_ClashZones_l26, io_le, hge, decide_true, cond_true, idxG_some hr, idxG_some hx, Option.bind_some, happ, io_subi, hw]
   rw [ih (acc ++ [z, z]) (by omega) (by simp; omega), List.take_add_one, hx]
   simp
theorem zones_ok (p : Policy) (I : Ints p) : law16_ClashZones_g p = some true := by
 unfold law16_ClashZones_g
 obtain ⟨b, hb, hb'⟩ := few_eq p I 10 (by omega)
 simp only [head_eq, Option.bind_some, hb, io_not]
 cases b with
 | false => rfl
 | true =>
   have S := hb' rfl
   have hn := S.n
   have hz := S.few.zones
   simp only [Bool.not_true, cond_false]
   have hloop := loop_fold (step := law16_ClashZones_l22 p) (fun (s : List Rule) i => (s, i)) p.Rules (fun s r => s ++ [mapR r]) [] (p.Rules.map mapR) (fun k r hr => by
     have hk : k < p.Rules.length := (List.getElem?_eq_some_iff.1 hr).1
     have hlt : (k : Int) < p.Rules.length := by omega
     have hzr := hz r (List.mem_of_getElem? hr)
     have hf : ∀ (l s : List Rule), l.foldl (fun s r => s ++ [mapR r]) s = s ++ l.map mapR := fun l => by
       induction l with
       | nil => intro s; simp
       | cons x l ih => intro s; rw [List.foldl_cons, ih]; simp
     rw [hf, List.nil_append]
     have hsl : ((p.Rules.take k).map mapR).length ≤ 1000 := by simp; omega
     generalize (p.Rules.take k).map mapR = s at hsl
     have hw : IntKind.i64.wrap ((r.Zones.length : Int) - 1) = (r.Zones.length : Int) - 1 := wr64 (by omega) (by omega)
     have hzd := zdown p k r hr hzr r.Zones.length [] (Nat.le_refl _) (by simp; omega)
     rw [List.take_length, List.nil_append] at hzd
     have hd : (r.Zones.reverse.flatMap fun z => [z, z]) = dupR r.Zones := rfl
     rw [hd] at hzd
     have hap : appG s [Rule.mk r.Kind r.Name (dupR r.Zones) r.N r.R r.S] = some (s ++ [Rule.mk r.Kind r.Name (dupR r.Zones) r.N r.R r.S]) := appG_some (by simp; omega)
     simp only [law16_ClashZones_l22, io_lt, io_len, hlt, decide_true, cond_true, idxG_some hr, Option.bind_some, io_subi, hw, hzd, hap, io_add, wr_up (k := k) (by omega)]
     rfl) (by
     have hf : ∀ (l s : List Rule), l.foldl (fun s r => s ++ [mapR r]) s = s ++ l.map mapR := fun l => by
       induction l with
       | nil => intro s; simp
       | cons x l ih => intro s; rw [List.foldl_cons, ih]; simp
     rw [hf]
     simp [law16_ClashZones_l22, io_lt, io_len])
   rw [hloop]
   have hmp : Policy.mk (p.Rules.map mapR) = mapP p := rfl
   simp only [Option.bind_some, cond_true, hmp, Findings_eq, valid_map p hz, find_map]
   cases hv : validB p with
   | false => simp only [Bool.false_eq_true, if_false]; rw [Same_refl _ (by simp)]; rfl
   | true => simp only [if_true]; rw [Same_refl _ (find_len hv)]; rfl
end Go.SX.Cl
