/- Parts of the proof. -/
import Derived.Test.YtllbabjgpdmblaaZClP11
import Derived.Test.YtllbabjgpdmblaaZCl14
import Derived.Test.YtllbabjgpdmblaaZCl31
import Derived.Test.YtllbabjgpdmblaaZCl11
import Derived.Test.YtllbabjgpdmblaaZCl13
import Derived.Test.YtllbabjgpdmblaaZCl9
set_option linter.unusedSimpArgs false
set_option linter.unusedVariables false
namespace Go.SX.Cl
open Go Go.SX Go.SX.ClP
theorem Like_eq (a b : Decision) : ref13_Like_g a b = some (likeB a b) := by
 unfold ref13_Like_g; rw [qDecision_eq]; rfl
theorem Without_eq {p : Policy} {a : Nat} (h : a < p.Rules.length) (hl : p.Rules.length ≤ 1000000) : ref16_Without_g p (a : Int) = some (without p a) := by
 unfold ref16_Without_g
 have h1 : subG p.Rules 0 (a : Int) = some (p.Rules.take a) := by unfold subG; rw [if_pos (by omega)]; simp
 have hw : IntKind.i64.wrap ((a : Int) + 1) = ((a + 1 : Nat) : Int) := wr_up (by omega)
 have h2 : subG p.Rules ((a + 1 : Nat) : Int) (p.Rules.length : Int) = some (p.Rules.drop (a + 1)) := by unfold subG; rw [if_pos (by omega)]; simp
 have h3 : appG ([] : List Rule) (p.Rules.take a) = some (p.Rules.take a) := by rw [appG_some (by simp; omega)]; rfl
 have h4 : appG (p.Rules.take a) (p.Rules.drop (a + 1)) = some (p.Rules.take a ++ p.Rules.drop (a + 1)) := appG_some (by simp; omega)
 simp only [Option.bind_some, h1, h3, io_add, hw, io_len, h2, h4]
 rfl
theorem qFinding_eq (x y : Finding) : qFinding x y = decide (x = y) := by
 obtain ⟨a1, a2, a3, ⟨b0, b1, b2, b3, b4, b5, b6, b7, b8, b9⟩⟩ := x
 obtain ⟨c1, c2, c3, ⟨d0, d1, d2, d3, d4, d5, d6, d7, d8, d9⟩⟩ := y
 rw [Bool.eq_iff_iff]
 simp only [qFinding, io_and, io_eqi, Bool.and_eq_true, decide_eq_true_eq, Finding.mk.injEq, A10.mk.injEq, and_assoc]
theorem Same_refl (l : List Finding) (hl : l.length ≤ 1000000) : ref16_Same_g l l = some true := by
 unfold ref16_Same_g
 simp only [io_not, io_eqi, decide_true, Bool.not_true, cond_false]
 rw [loop_any (step := ref16_Same_l2 l l) l (fun _ => false) (.inr false) (.inl ()) (fun k x hx => ?_) (by simp [ref16_Same_l2, io_lt, io_len])]
 · simp [orR]
 · have hk : k < l.length := (List.getElem?_eq_some_iff.1 hx).1
   have hlt : (k : Int) < l.length := by omega
   simp only [ref16_Same_l2, io_lt, io_len, hlt, decide_true, cond_true, idxG_some hx, Option.bind_some, qFinding_eq, io_not, io_add, wr_up (k := k) (by omega)]
   simp
def cellsN (p : Policy) : Nat → Nat
 | 0 => 1
 | a + 1 => cellsN p a * (startsS p a).length
theorem prod_ok {p : Policy} (F : Few p) (I : Ints p) : ∃ v, ref16_Cells_g p 3000 = some v ∧ (v ≤ 3000 → ∀ a, a ≤ 10 → cellsN p a ≤ 3000) := by
 unfold ref16_Cells_g
 have hc : ∀ a, cellsN p (a + 1) = cellsN p a * (startsS p a).length := fun a => rfl
 obtain ⟨t, h1, h2⟩ := loop_up (step := ref16_Cells_l2 p 3000) (fun (s : Int) k => (s, k)) 10 (fun (k : Nat) (s : Int) => s = (cellsN p k : Int) ∧ ∀ a, a ≤ k → cellsN p a ≤ 3000) (fun t => t = .inr 3001 ∨ ∃ s, t = .inl s ∧ ∀ a, a ≤ 10 → cellsN p a ≤ 3000) (fun k s hk hI => by
   obtain ⟨rfl, hI2⟩ := hI
   have h10 : (k : Int) < 10 := by omega
   have hl := startsS_len F k
   have hck := hI2 k (Nat.le_refl _)
   have hm : cellsN p k * (startsS p k).length ≤ 3000 * 60001 := Nat.mul_le_mul hck hl
   have hw : IntKind.i64.wrap ((cellsN p k : Int) * ((startsS p k).length : Int)) = ((cellsN p k * (startsS p k).length : Nat) : Int) := by
     rw [Int.natCast_mul]; exact wr64 (by have : (0 : Int) ≤ (cellsN p k : Int) * ((startsS p k).length : Int) := by rw [← Int.natCast_mul]; omega
                                          omega) (by rw [← Int.natCast_mul]; omega)
   have hw1 : IntKind.i64.wrap (3000 + 1) = 3001 := by decide
   simp only [ref16_Cells_l2, io_lt, h10, decide_true, cond_true, starts_eq F I k hk, Option.bind_some, io_mul, io_len, hw, io_add, hw1, wr_up (k := k) (by omega)]
   by_cases hgt : (3000 : Int) < ((cellsN p k * (startsS p k).length : Nat) : Int)
   · exact .inr ⟨_, by simp only [hgt, decide_true, cond_true], .inl rfl⟩
   · refine .inl ⟨(cellsN p (k + 1) : Int), by simp only [hgt, decide_false, cond_false]; rfl, rfl, fun a ha => ?_⟩
     rcases Nat.lt_or_eq_of_le ha with h | h
     · exact hI2 a (by omega)
     · subst h; rw [hc]; omega) (fun s hI => ⟨.inl s, by simp [ref16_Cells_l2, io_lt], .inr ⟨s, rfl, hI.2⟩⟩) 1 ⟨rfl, fun a ha => by
       obtain rfl : a = 0 := by omega
       show (1 : Nat) ≤ 3000; omega⟩
 rw [h1]
 rcases h2 with rfl | ⟨s, rfl, h3⟩
 · exact ⟨3001, rfl, fun h => by omega⟩
 · exact ⟨s, rfl, fun _ => h3⟩
theorem refFew_eq (p : Policy) (n : Int) (hn : 0 ≤ n ∧ n ≤ 1000) : ∃ b, ref13_Few_g p n = some b ∧ (b = true → (p.Rules.length : Int) ≤ n ∧ ∀ r ∈ p.Rules, r.Zones.length ≤ 30 ∧ r.Name.size ≤ 200) := by
 unfold ref13_Few_g
 simp only [io_lt, io_len]
 by_cases h : n < p.Rules.length
 · exact ⟨false, by simp [h], fun h => by cases h⟩
 · simp only [h, decide_false, cond_false]
   rw [loop_any (step := ref13_Few_l2 p) p.Rules (fun r => decide (30 < r.Zones.length) || decide (200 < r.Name.size)) (.inr false) (.inl ()) (fun k x hx => ?_) (by simp [ref13_Few_l2, io_lt, io_len])]
   · cases hb : p.Rules.any fun r => decide (30 < r.Zones.length) || decide (200 < r.Name.size) with
     | true => exact ⟨false, rfl, fun h => by cases h⟩
     | false =>
       refine ⟨true, rfl, fun _ => ⟨by omega, fun r hr => ?_⟩⟩
       have := List.any_eq_false.1 hb r hr
       simp only [Bool.or_eq_true, decide_eq_true_eq] at this
       omega
   · have hk : k < p.Rules.length := (List.getElem?_eq_some_iff.1 hx).1
     have hlt : (k : Int) < p.Rules.length := by omega
     simp only [ref13_Few_l2, io_lt, io_len, hlt, decide_true, cond_true, idxG_some hx, Option.bind_some, io_ssz, io_add, wr_up (k := k) (by omega)]
     by_cases h1 : 30 < x.Zones.length
     · have h1' : (30 : Int) < x.Zones.length := by omega
       simp [h1, h1']
     · have h1' : ¬ (30 : Int) < x.Zones.length := by omega
       by_cases h2 : 200 < x.Name.size
       · have h2' : (200 : Int) < x.Name.size := by omega
         simp [h1, h1', h2, h2']
       · have h2' : ¬ (200 : Int) < x.Name.size := by omega
         simp [h1, h1', h2, h2']
structure Small (p : Policy) (n : Int) : Prop where
 few : Few p
 n : (p.Rules.length : Int) ≤ n
 cells : ∀ a, a ≤ 10 → cellsN p a ≤ 3000
theorem few_eq (p : Policy) (I : Ints p) (n : Int) (hn : 0 ≤ n ∧ n ≤ 1000) : ∃ b, law16_few_g p n = some b ∧ (b = true → Small p n) := by
 obtain ⟨b, h1, h2⟩ := refFew_eq p n hn
 unfold law16_few_g
 rw [h1]
 simp only [Option.bind_some]
 cases b with
 | false => exact ⟨false, rfl, fun h => by cases h⟩
 | true =>
   obtain ⟨h3, h4⟩ := h2 rfl
   have F : Few p := ⟨by omega, fun r hr => (h4 r hr).1⟩
   obtain ⟨v, h5, h6⟩ := prod_ok F I
   simp only [cond_true, h5, Option.bind_some, io_le]
   exact ⟨_, rfl, fun hb => ⟨F, h3, h6 (by simpa using hb)⟩⟩
end Go.SX.Cl
namespace Go.SX.Cl
open Go Go.SX Go.SX.ClP
set_option maxRecDepth 100000
def exR0 : Rule := ⟨1, ⟨#[97]⟩, [limZ], 0, ⟨0, 0⟩, ⟨0, 0⟩⟩
def exR1 : Rule := ⟨1, ⟨#[98]⟩, [limZ.put 2 ⟨1, 1⟩], 0, ⟨0, 0⟩, ⟨0, 0⟩⟩
def exR2 : Rule := ⟨2, ⟨#[99]⟩, [limZ.put 1 ⟨0, 15⟩], 0, ⟨0, 0⟩, ⟨0, 0⟩⟩
def exR3 : Rule := ⟨3, ⟨#[112]⟩, [limZ], 5, ⟨0, 1⟩, ⟨0, 1⟩⟩
def exR4 : Rule := ⟨2, ⟨#[100]⟩, [], 0, ⟨0, 0⟩, ⟨0, 0⟩⟩
def exP : Policy := ⟨[exR0, exR1, exR2, exR3, exR4]⟩
def exA : A10 Int := ⟨0, 0, 0, 0, 0, 0, 0, 0, 1, 0⟩
def exB : A10 Int := ⟨0, 0, 1, 0, 0, 0, 0, 0, 1, 0⟩
def exF : A10 Int := ⟨0, 20, 0, 0, 0, 0, 0, 0, 1, 0⟩
theorem ex_valid : validB exP = true := by decide +kernel
theorem h_r0 (f : A10 Int) : holds exR0 f = inZ limZ f := by simp [holds, exR0]
theorem h_r1 (f : A10 Int) : holds exR1 f = inZ (limZ.put 2 ⟨1, 1⟩) f := by simp [holds, exR1]
theorem h_r3 (f : A10 Int) : holds exR3 f = inZ limZ f := by simp [holds, exR3]
theorem h_r4 (f : A10 Int) : holds exR4 f = false := by simp [holds, exR4]
theorem ex_idle1 : idleAt exP 1 = [⟨2, 1, -1, exB⟩] := by
 have hl : IsL (fun f => holds (ruleAt exP 1) f = true) exB := by
   refine ⟨by decide +kernel, by decide +kernel, fun f hf hlt hp => ?_⟩
   have hp : inZ (limZ.put 2 ⟨1, 1⟩) f = true := by rw [← h_r1]; exact hp
   refine not_lex_of_le (f := exB.get) (g := f.get) (fun j _ hj => ?_) hlt
   have h1 := (inZ_iff.1 hp j hj).1
   have h2 : ∀ j, j < 10 → exB.get j = ((limZ.put 2 ⟨1, 1⟩).get j).Lo := by decide
   rw [h2 j hj]; exact h1
 unfold idleAt
 rw [if_pos, leastO_some hl]
 · rfl
 · refine ⟨by decide +kernel, fun f hf hh => ?_⟩
   have hh : holds exR1 f = true := hh
   have h0 : holds exR0 f = true := by rw [h_r0]; exact hf
   have h3 : holds exR3 f = true := by rw [h_r3]; exact hf
   have h4 := h_r4 f
   have e1 : decS exP f = finJ ([exR0, exR1, exR2, exR3, exR4].foldl (stepJ f) (J0, 0)).1 := rfl
   have e2 : decS (without exP 1) f = finJ ([exR0, exR2, exR3, exR4].foldl (stepJ f) (J0, 0)).1 := rfl
   rw [e1, e2]
   cases h2 : holds exR2 f
   · simp only [List.foldl_cons, List.foldl_nil, stepJ, h0, hh, h2, h3, h4, if_true, Bool.false_eq_true, if_false]
     decide +kernel
   · simp only [List.foldl_cons, List.foldl_nil, stepJ, h0, hh, h2, h3, h4, if_true, Bool.false_eq_true, if_false]
     decide +kernel
theorem ex_idle_no (a : Nat) (f : A10 Int) (hf : inZ limZ f = true) (h1 : holds (ruleAt exP a) f = true) (h2 : likeB (decS exP f) (decS (without exP a) f) = false) : idleAt exP a = [] := by
 unfold idleAt
 rw [if_neg]
 rintro ⟨_, h⟩
 have := h f hf h1
 rw [h2] at this; cases this
theorem ex_idle4 : idleAt exP 4 = [] := by
 unfold idleAt
 rw [if_neg]
 rintro ⟨h, _⟩
 exact h rfl
theorem ex_cont (a b : Nat) (g : A10 Int) (ha : (ruleAt exP a).Kind = 1) (hb : (ruleAt exP b).Kind = 2) (hl : IsL (fun f => holds (ruleAt exP a) f = true ∧ holds (ruleAt exP b) f = true) g) : contAt exP a b = [⟨3, a, b, g⟩] := by
 unfold contAt
 rw [if_pos ⟨ha, hb⟩, leastO_some hl]; rfl
theorem ex_cont_no (a b : Nat) (h : (ruleAt exP a).Kind ≠ 1 ∨ (ruleAt exP b).Kind ≠ 2) : contAt exP a b = [] := by
 unfold contAt
 rw [if_neg]
 rintro ⟨h1, h2⟩
 rcases h with h | h
 · exact h h1
 · exact h h2
theorem ex_cont4 (a : Nat) : contAt exP a 4 = [] := by
 unfold contAt
 split
 · rw [leastO_none fun f _ hp => by
     have h : holds exR4 f = true := hp.2
     rw [h_r4] at h; cases h]; rfl
 · rfl
theorem ex_find : findS exP = [⟨1, 4, -1, ⟨0, 0, 0, 0, 0, 0, 0, 0, 0, 0⟩⟩, ⟨2, 1, -1, exB⟩, ⟨3, 0, 2, exA⟩, ⟨3, 1, 2, exB⟩] := by
 have l02 : IsL (fun f => holds (ruleAt exP 0) f = true ∧ holds (ruleAt exP 2) f = true) exA := by
   refine ⟨by decide +kernel, by decide +kernel, fun f hf hlt _ => ?_⟩
   refine not_lex_of_le (f := exA.get) (g := f.get) (fun j _ hj => ?_) hlt
   have h1 := (inZ_iff.1 hf j hj).1
   have h2 : ∀ j, j < 10 → exA.get j = (limZ.get j).Lo := by decide
   rw [h2 j hj]; exact h1
 have l12 : IsL (fun f => holds (ruleAt exP 1) f = true ∧ holds (ruleAt exP 2) f = true) exB := by
   refine ⟨by decide +kernel, by decide +kernel, fun f hf hlt hp => ?_⟩
   have hp : inZ (limZ.put 2 ⟨1, 1⟩) f = true := by rw [← h_r1]; exact hp.1
   refine not_lex_of_le (f := exB.get) (g := f.get) (fun j _ hj => ?_) hlt
   have h1 := (inZ_iff.1 hp j hj).1
   have h2 : ∀ j, j < 10 → exB.get j = ((limZ.put 2 ⟨1, 1⟩).get j).Lo := by decide
   rw [h2 j hj]; exact h1
 have hr : List.range exP.Rules.length = [0, 1, 2, 3, 4] := by decide
 unfold findS
 rw [hr]
 simp only [List.flatMap_cons, List.flatMap_nil, ex_cont4, ex_idle1, ex_idle4,
   ex_idle_no 0 exF (by decide +kernel) (by decide +kernel) (by decide +kernel), ex_idle_no 2 exA (by decide +kernel) (by decide +kernel) (by decide +kernel), ex_idle_no 3 exF (by decide +kernel) (by decide +kernel) (by decide +kernel),
   ex_cont 0 2 exA rfl rfl l02, ex_cont 1 2 exB rfl rfl l12, ex_cont_no 0 0 (.inr (by decide)), ex_cont_no 0 1 (.inr (by decide)), ex_cont_no 0 3 (.inr (by decide)),
   ex_cont_no 1 0 (.inr (by decide)), ex_cont_no 1 1 (.inr (by decide)), ex_cont_no 1 3 (.inr (by decide)),
   ex_cont_no 2 0 (.inl (by decide)), ex_cont_no 2 1 (.inl (by decide)), ex_cont_no 2 2 (.inl (by decide)), ex_cont_no 2 3 (.inl (by decide)),
   ex_cont_no 3 0 (.inl (by decide)), ex_cont_no 3 1 (.inl (by decide)), ex_cont_no 3 2 (.inl (by decide)), ex_cont_no 3 3 (.inl (by decide)),
   ex_cont_no 4 0 (.inl (by decide)), ex_cont_no 4 1 (.inl (by decide)), ex_cont_no 4 2 (.inl (by decide)), ex_cont_no 4 3 (.inl (by decide)),
   show neverAt exP 0 = [] by decide +kernel, show neverAt exP 1 = [] by decide +kernel, show neverAt exP 2 = [] by decide +kernel, show neverAt exP 3 = [] by decide +kernel,
   show neverAt exP 4 = [⟨1, 4, -1, zeroF⟩] by decide +kernel]
 rfl
theorem head_eq : law16_head_g = some true := by
 have hz : ∀ (a : Nat) (lo hi : Int), a < 10 → law16_zone_g (a : Int) lo hi = some [limZ.put a ⟨lo, hi⟩] := fun a lo hi ha => by
   unfold law16_zone_g
   simp only [Limits_eq, Option.bind_some, pixG_some ha]
 have h2 : law16_zone_g 2 1 1 = some [limZ.put 2 ⟨1, 1⟩] := hz 2 1 1 (by omega)
 have h1 : law16_zone_g 1 0 15 = some [limZ.put 1 ⟨0, 15⟩] := hz 1 0 15 (by omega)
 unfold law16_head_g
 simp only [Limits_eq, Option.bind_some, h1, h2]
 have e1 : clash_Findings_g exP = some [⟨1, 4, -1, ⟨0, 0, 0, 0, 0, 0, 0, 0, 0, 0⟩⟩, ⟨2, 1, -1, exB⟩, ⟨3, 0, 2, exA⟩, ⟨3, 1, 2, exB⟩] := by
   rw [Findings_eq, ex_valid, if_pos rfl, ex_find]
 have e2 : clash_Findings_g ⟨[]⟩ = some [] := by
   rw [Findings_eq]
   have : validB ⟨[]⟩ = true := by decide
   rw [this, if_pos rfl]; simp [findS]
 unfold exP exR0 exR1 exR2 exR3 exR4 exA exB at e1
 rw [e1]
 simp only [Option.bind_some]
 rw [Same_refl _ (by simp)]
 simp only [Option.bind_some, cond_true, e2, io_len, io_eqi]
 rfl
end Go.SX.Cl
