/- Parts of the proof. -/
import Derived.Test.YtllbabjgpdmblaaZClP6
import Derived.Test.YtllbabjgpdmblaaZClP3
import Derived.Test.YtllbabjgpdmblaaZClDelete
set_option linter.unusedSimpArgs false
set_option linter.unusedVariables false
namespace Go.SX.Cl
open Go Go.SX Go.SX.ClP
theorem qDecision_eq (x y : Decision) : qDecision x y = decide (x = y) := by
 obtain ⟨a1, a2, a3, a4, a5, ⟨a6, a7⟩, ⟨a8, a9⟩, ⟨b1, b2⟩, ⟨b3, b4⟩, ⟨b5, b6⟩, b7⟩ := x
 obtain ⟨c1, c2, c3, c4, c5, ⟨c6, c7⟩, ⟨c8, c9⟩, ⟨d1, d2⟩, ⟨d3, d4⟩, ⟨d5, d6⟩, d7⟩ := y
 rw [Bool.eq_iff_iff]
 simp only [qDecision, io_and, io_beq, io_eqi, Bool.and_eq_true, beq_iff_eq, decide_eq_true_eq, Decision.mk.injEq, Ratio.mk.injEq, and_assoc]
def likeB (a b : Decision) : Bool := decide (({ a with By := b.By } : Decision) = b)
def zonesFrom : Nat → List Rule → List Ranged
 | _, [] => []
 | k, r :: l => r.Zones.map (fun z => Ranged.mk (k : Int) z) ++ zonesFrom (k + 1) l
def fdOf (p : Policy) : Finder := ⟨p, zonesFrom 0 p.Rules, limZ⟩
theorem mem_zonesFrom {x : Ranged} : ∀ {l : List Rule} {k : Nat}, x ∈ zonesFrom k l ↔ ∃ i r z, l[i]? = some r ∧ z ∈ r.Zones ∧ x = ⟨((k + i : Nat) : Int), z⟩
 | [], k => by simp [zonesFrom]
 | r :: l, k => by
   rw [zonesFrom, List.mem_append, List.mem_map, mem_zonesFrom]
   constructor
   · rintro (⟨z, hz, rfl⟩ | ⟨i, r', z, h1, h2, rfl⟩)
     · exact ⟨0, r, z, rfl, hz, rfl⟩
     · exact ⟨i + 1, r', z, by simpa using h1, h2, by congr 2; omega⟩
   · rintro ⟨i, r', z, h1, h2, rfl⟩
     cases i with
     | zero => simp at h1; subst h1; exact .inl ⟨z, h2, rfl⟩
     | succ i => exact .inr ⟨i, r', z, by simpa using h1, h2, by congr 2; omega⟩
theorem zonesFrom_len : ∀ (l : List Rule) (k m : Nat), (∀ r ∈ l, r.Zones.length ≤ m) → (zonesFrom k l).length ≤ l.length * m
 | [], k, m, _ => by simp [zonesFrom]
 | r :: l, k, m, h => by
   rw [zonesFrom, List.length_append, List.length_map]
   have h1 := h r (by simp)
   have h2 := zonesFrom_len l (k + 1) m (fun r hr => h r (List.mem_cons_of_mem _ hr))
   simp only [List.length_cons, Nat.succ_mul]; omega
def ruleAt (p : Policy) (a : Nat) : Rule := (p.Rules[a]?).getD default
theorem mem_zof {fd : Finder} {f : A10 Int} {i : Nat} : i ∈ zof fd f 10 ↔ ∃ x, fd.zones[i]? = some x ∧ inZ x.zone f = true := by
 unfold zof
 rw [List.mem_filter, List.mem_range, List.all_eq_true]
 constructor
 · rintro ⟨h1, h2⟩
   refine ⟨fd.zones[i], by simp [h1], inZ_iff.2 fun j hj => ?_⟩
   have := h2 j (by simpa using hj)
   simpa [inAt, zlo, zhi, h1] using this
 · rintro ⟨x, h1, h2⟩
   have hi := (List.getElem?_eq_some_iff.1 h1).1
   refine ⟨hi, fun j hj => ?_⟩
   have := inZ_iff.1 h2 j (by simpa using hj)
   simpa [inAt, zlo, zhi, h1] using this
theorem holds_iff {p : Policy} {f : A10 Int} {a : Nat} : holds (ruleAt p a) f = true ↔ ∃ i ∈ zof (fdOf p) f 10, zrule (fdOf p) i = (a : Int) := by
 constructor
 · intro h
   obtain ⟨z, hz, hin⟩ := List.any_eq_true.1 h
   have ha : p.Rules[a]? = some (ruleAt p a) := by
     unfold ruleAt at hz ⊢
     cases h : p.Rules[a]? with
     | none => rw [h] at hz; simp [default, instInhabitedRule.default] at hz
     | some r => rfl
   have hm : (⟨(a : Int), z⟩ : Ranged) ∈ zonesFrom 0 p.Rules := mem_zonesFrom.2 ⟨a, _, z, ha, hz, by simp⟩
   obtain ⟨i, hi⟩ := List.getElem?_of_mem hm
   exact ⟨i, mem_zof.2 ⟨_, hi, hin⟩, by simp [zrule, fdOf, hi]⟩
 · rintro ⟨i, hi, hr⟩
   obtain ⟨x, hx, hin⟩ := mem_zof.1 hi
   obtain ⟨j, r, z, h1, h2, rfl⟩ := mem_zonesFrom.1 (List.mem_of_getElem? hx)
   have : zrule (fdOf p) i = ((0 + j : Nat) : Int) := by simp [zrule, hx]
   have hj : j = a := by rw [hr] at this; omega
   subst hj
   exact List.any_eq_true.2 ⟨z, by simpa [ruleAt, h1] using h2, hin⟩
theorem holds_congr {p : Policy} {f g : A10 Int} (h : zof (fdOf p) f 10 = zof (fdOf p) g 10) : ∀ r ∈ p.Rules, holds r f = holds r g := fun r hr => by
 obtain ⟨a, ha⟩ := List.getElem?_of_mem hr
 have e : r = ruleAt p a := by simp [ruleAt, ha]
 rw [e, Bool.eq_iff_iff, holds_iff, holds_iff, h]
theorem foldJ_congr {f g : A10 Int} : ∀ {l : List Rule} (s : JS × Nat), (∀ r ∈ l, holds r f = holds r g) → l.foldl (stepJ f) s = l.foldl (stepJ g) s
 | [], _, _ => rfl
 | r :: l, s, h => by
   rw [List.foldl_cons, List.foldl_cons, foldJ_congr (l := l) _ (fun r hr => h r (List.mem_cons_of_mem _ hr))]
   congr 1
   unfold stepJ; rw [h r (by simp)]
theorem decS_congr {p : Policy} {f g : A10 Int} (h : ∀ r ∈ p.Rules, holds r f = holds r g) : decS p f = decS p g := by
 unfold decS; rw [foldJ_congr _ h]
def without (p : Policy) (a : Nat) : Policy := ⟨p.Rules.take a ++ p.Rules.drop (a + 1)⟩
theorem mem_without {p : Policy} {a : Nat} {r : Rule} (h : r ∈ (without p a).Rules) : r ∈ p.Rules := by
 rcases List.mem_append.1 h with h | h
 · exact List.mem_of_mem_take h
 · exact List.mem_of_mem_drop h
structure Good (p : Policy) : Prop where
 rules : p.Rules.length ≤ 1000
 zones : ∀ r ∈ p.Rules, r.Zones.length ≤ 1000
 zone : ∀ r ∈ p.Rules, ∀ z ∈ r.Zones, ∀ i, i < 10 → (limZ.get i).Lo ≤ (z.get i).Lo ∧ (z.get i).Lo ≤ (z.get i).Hi ∧ (z.get i).Hi ≤ (limZ.get i).Hi
theorem Good.without {p : Policy} (h : Good p) (a : Nat) : Good (without p a) :=
 ⟨by have := h.rules; simp [Cl.without]; omega, fun r hr => h.zones r (mem_without hr), fun r hr => h.zone r (mem_without hr)⟩
theorem lim_ok : ∀ j, j < 10 → 0 ≤ (limZ.get j).Lo ∧ (limZ.get j).Lo ≤ (limZ.get j).Hi ∧ (limZ.get j).Hi ≤ 2000000000 := by decide
theorem win_iff {p : Policy} {f : A10 Int} : win (fL (fdOf p)) (fH (fdOf p)) 0 f.get ↔ inZ limZ f = true := by
 rw [inZ_iff]
 exact ⟨fun h i hi => h i (Nat.zero_le _) hi, fun h i _ hi => h i hi⟩
structure IsL (P : A10 Int → Prop) (g : A10 Int) : Prop where
 win : inZ limZ g = true
 p : P g
 least : ∀ f, inZ limZ f = true → lexLt 0 f.get g.get → ¬ P f
theorem IsL.uniq {P : A10 Int → Prop} {g g' : A10 Int} (h : IsL P g) (h' : IsL P g') : g = g' := by
 rcases lex_tri 0 g.get g'.get with h1 | h1 | h1
 · exact (h'.least g h.win h1 h.p).elim
 · exact (h.least g' h'.win h1 h'.p).elim
 · exact A10.ext_get fun j hj => h1 j (Nat.zero_le _) hj
theorem zlen {p : Policy} (G : Good p) : (fdOf p).zones.length ≤ 1000000 := by
 have := zonesFrom_len p.Rules 0 1000 G.zones
 have := G.rules
 show (zonesFrom 0 p.Rules).length ≤ _
 omega
theorem zone_ok {p : Policy} (G : Good p) (i : Nat) (hi : i < (fdOf p).zones.length) (j : Nat) (hj : j < 10) : fL (fdOf p) j ≤ zlo (fdOf p) i j ∧ zlo (fdOf p) i j ≤ zhi (fdOf p) i j ∧ zhi (fdOf p) i j ≤ fH (fdOf p) j := by
 have hx : (fdOf p).zones[i]? = some (fdOf p).zones[i] := by simp [hi]
 obtain ⟨k, r, z, h1, h2, h3⟩ := mem_zonesFrom.1 (List.mem_of_getElem? hx)
 have := G.zone r (List.mem_of_getElem? h1) z h2 j hj
 have e : ((fdOf p).zones[i]?).getD default = ⟨((0 + k : Nat) : Int), z⟩ := by rw [hx, h3]; rfl
 simp only [zlo, zhi, e, fL, fH]
 exact this
theorem good_iff {p : Policy} {ns : List Nat} {Wt : List Nat → Bool} {f : A10 Int} : good (zrule (fdOf p)) (ints ns) Wt (zof (fdOf p) f 10) ↔ (∀ a ∈ ns, holds (ruleAt p a) f = true) ∧ Wt (zof (fdOf p) f 10) = true := by
 unfold good
 refine and_congr ⟨fun h a ha => holds_iff.2 (h _ (List.mem_map_of_mem ha)), fun h r hr => ?_⟩ Iff.rfl
 obtain ⟨a, ha, rfl⟩ := List.mem_map.1 hr
 exact holds_iff.1 (h a ha)
theorem least_acc {p : Policy} (G : Good p) (ns : List Nat) (hns : ns.length ≤ 1000000) : ∃ g b, least_accept_b (fdOf p) (ints ns) = some (g, b) ∧
   (b = true → IsL (fun f => ∀ a ∈ ns, holds (ruleAt p a) f = true) g) ∧ (b = false → g = ⟨0, 0, 0, 0, 0, 0, 0, 0, 0, 0⟩ ∧ ∀ f, inZ limZ f = true → ¬ ∀ a ∈ ns, holds (ruleAt p a) f = true) := by
 obtain ⟨g, b, h1, h2, h3⟩ := least_accept_ok (fd := fdOf p) (need := ints ns) (Wt := fun _ => true) ⟨zlen G, by rw [ints_len]; exact hns, lim_ok, zone_ok G, fun f => rfl⟩
 refine ⟨g, b, h1, fun hb => ?_, fun hb => ?_⟩
 · obtain ⟨k1, k2, k3⟩ := h2 hb
   exact ⟨win_iff.1 k1, (good_iff.1 k2).1, fun f hf hl hp => k3 f (win_iff.2 hf) hl (good_iff.2 ⟨hp, rfl⟩)⟩
 · obtain ⟨k1, k2⟩ := h3 hb
   exact ⟨k1, fun f hf hp => k2 f (win_iff.2 hf) (good_iff.2 ⟨hp, rfl⟩)⟩
open Classical in
theorem least_dif {p : Policy} (G : Good p) (a : Nat) : ∃ g b, least_differs_b (fdOf p) (ints [a]) (fdOf p) (without p a) = some (g, b) ∧
   (b = true → IsL (fun f => holds (ruleAt p a) f = true ∧ likeB (decS p f) (decS (without p a) f) = false) g) ∧
   (b = false → ∀ f, inZ limZ f = true → holds (ruleAt p a) f = true → likeB (decS p f) (decS (without p a) f) = true) := by
 let want : A10 Int → Bool := fun f => !likeB (decS p f) (decS (without p a) f)
 let Wt : List Nat → Bool := fun l => decide (∃ f, zof (fdOf p) f 10 = l ∧ want f = true)
 have hW : ∀ f, Wt (zof (fdOf p) f 10) = want f := fun f => by
   show decide _ = _
   cases hw : want f with
   | true => exact decide_eq_true ⟨f, rfl, hw⟩
   | false =>
     refine decide_eq_false ?_
     rintro ⟨g, h1, h2⟩
     have hc := holds_congr h1
     have e : want g = want f := by
       show (!likeB (decS p g) (decS (without p a) g)) = (!likeB (decS p f) (decS (without p a) f))
       rw [decS_congr hc, decS_congr (p := without p a) fun r hr => hc r (mem_without hr)]
     rw [e, hw] at h2; cases h2
 obtain ⟨g, b, h1, h2, h3⟩ := least_differs_ok (fd := fdOf p) (need := ints [a]) (fe := fdOf p) (less := without p a) (Wt := Wt) ⟨zlen G, by simp [ints], lim_ok, zone_ok G, fun f => by
   have e1 := Decide_eq p f (by have := G.rules; omega) (fun r hr => by have := G.zones r hr; omega)
   have G' := G.without a
   have e2 := Decide_eq (without p a) f (by have := G'.rules; omega) (fun r hr => by have := G'.zones r hr; omega)
   have e3 : (fdOf p).policy = p := rfl
   rw [e3, e1, e2, hW]
   simp only [Option.bind_some, io_not, qDecision_eq]
   rfl⟩
 have hg : ∀ f, good (zrule (fdOf p)) (ints [a]) Wt (zof (fdOf p) f 10) ↔ holds (ruleAt p a) f = true ∧ likeB (decS p f) (decS (without p a) f) = false := fun f => by
   rw [good_iff, hW]
   simp [want]
 refine ⟨g, b, h1, fun hb => ?_, fun hb => ?_⟩
 · obtain ⟨k1, k2, k3⟩ := h2 hb
   exact ⟨win_iff.1 k1, (hg g).1 k2, fun f hf hl hp => k3 f (win_iff.2 hf) hl ((hg f).2 hp)⟩
 · obtain ⟨k1, k2⟩ := h3 hb
   intro f hf hh
   have := k2 f (win_iff.2 hf)
   rw [hg] at this
   cases hl : likeB (decS p f) (decS (without p a) f) with
   | true => rfl
   | false => exact (this ⟨hh, hl⟩).elim
end Go.SX.Cl
