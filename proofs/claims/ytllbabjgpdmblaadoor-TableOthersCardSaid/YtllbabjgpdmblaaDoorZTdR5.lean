/- Parts of the proof. -/
import Derived.Test.YtllbabjgpdmblaaDoorZTdR2
import Derived.Test.YtllbabjgpdmblaaDoorZTd18d
set_option linter.unusedSimpArgs false
set_option linter.unusedVariables false
set_option linter.unusedSectionVars false
namespace Go.SX.Td
open Go Go.SX Tb
def sumZ (l : List Rule) : Int := l.foldl (fun s r => IntKind.i64.wrap (s + r.Zones.length)) 0
def LenP (p : Policy) : Prop := p.Rules.length ≤ 9223372036854775807
theorem Few_eq {p : Policy} (hp : LenP p) : ∃ b, ref14_Few_g p = some b ∧ (b = true → p.Rules.length ≤ 8 ∧ sumZ p.Rules ≤ 10) := by
 unfold LenP at hp
 obtain ⟨r, h1, h2⟩ := loop_up (step := ref14_Few_l2 p) (fun (s : Int) i => (s, i)) p.Rules.length
  (fun k s => s = sumZ (p.Rules.take k)) (fun r => r = .inr false ∨ r = .inl (sumZ p.Rules)) (fun k s hk hI => by
  subst hI
  have hx : p.Rules[k]? = some p.Rules[k] := by simp [hk]
  rw [List.take_add_one, hx, Option.toList_some]
  generalize p.Rules[k] = x at hx
  have hlt : (k : Int) < p.Rules.length := by omega
  simp only [ref14_Few_l2, io_lt, io_len, hlt, decide_true, cond_true, idxG_some hx, Option.bind_some, io_ssz, io_add, wr_up (k := k) (by omega)]
  by_cases h : (60 : Int) < (x.Name.size : Int)
  ·exact .inr ⟨.inr false, by rw [decide_eq_true h]; rfl, .inl rfl⟩
  ·exact .inl ⟨_, by rw [decide_eq_false h]; rfl, by unfold sumZ; rw [List.foldl_append]; rfl⟩) (fun s hI => by
  subst hI
  have hlt : ¬ ((p.Rules.length : Int) < p.Rules.length) := by omega
  exact ⟨_, by simp only [ref14_Few_l2, io_lt, io_len, hlt, decide_false, cond_false]; rfl, .inr (by rw [List.take_length])⟩) 0 (by simp [sumZ])
 unfold ref14_Few_g
 rw [h1]
 rcases h2 with rfl | rfl
 ·exact ⟨false, rfl, fun h => by cases h⟩
 ·simp only [orR, Option.bind_some, io_le, io_len]
  by_cases h : (p.Rules.length : Int) ≤ 8
  ·exact ⟨decide (sumZ p.Rules ≤ 10), by rw [decide_eq_true h]; rfl, fun hb => ⟨by omega, by simpa using hb⟩⟩
  ·exact ⟨false, by rw [decide_eq_false h]; rfl, fun h => by cases h⟩
theorem valid_zones {p : Policy} (hv : validB p = true) : ∀ r ∈ p.Rules, r.Zones.length ≤ 200 := fun r hr => by
 obtain ⟨k, hk⟩ := List.getElem?_of_mem hr
 have := valid_all hv hk
 simp only [fineAt, Bool.and_eq_true, decide_eq_true_eq] at this
 exact this.2.1
theorem sumZ_eq : ∀ {l : List Rule}, l.length ≤ 8 → (∀ r ∈ l, r.Zones.length ≤ 200) → ∀ s : Int, 0 ≤ s → s + l.length * 200 ≤ 10000 → l.foldl (fun s r => IntKind.i64.wrap (s + r.Zones.length)) s = s + ((l.flatMap (·.Zones)).length : Nat)
 | [], _, _, s, _, _ => by simp
 | r :: l, hl, hz, s, h0, hs => by
  have h1 := hz r (by simp)
  rw [List.length_cons] at hs hl
  rw [List.foldl_cons, wr64 (by omega) (by omega), sumZ_eq (by omega) (fun r hr => hz r (by simp [hr])) _ (by omega) (by omega), List.flatMap_cons, List.length_append]
  omega
theorem few_zones {p : Policy} (hv : validB p = true) (h : p.Rules.length ≤ 8 ∧ sumZ p.Rules ≤ 10) : (zonesOf p).length ≤ 10 := by
 have := sumZ_eq h.1 (valid_zones hv) 0 (by omega) (by omega)
 have h2 := h.2
 unfold sumZ at h2
 rw [this] at h2
 show (p.Rules.flatMap (·.Zones)).length ≤ 10
 omega
open Classical in
theorem built_says (p : Policy) {f : A10 Int} (h : limL.In (toF f)) : (builtT p).val (toF f) 0 = decS p f := by
 rw [(builtT_ok p).2 _ h, toA_toF]
end Go.SX.Td
