/- Parts of the proof. -/
import Derived.Test.YtllbabjgpdmblaaZClP4
import Derived.Test.YtllbabjgpdmblaaZCl46
import Derived.Test.YtllbabjgpdmblaaZCl58
set_option linter.unusedSimpArgs false
set_option linter.unusedVariables false
namespace Go.SX.Cl
open Go Go.SX
theorem refLimits_eq : ref12_Limits_g = some limZ := by
 unfold ref12_Limits_g
 simp only [Option.bind_some]
 have step : ∀ (k : Nat) (hk : k < 10) (z : A10 Range), ref12_Limits_l2 [1000000000, 150, 1, 19, 7, 319, 3, 3, 12, 100] (z, (k : Int)) = some (.inl (z.put k ⟨(z.get k).Lo, ([1000000000, 150, 1, 19, 7, 319, 3, 3, 12, 100] : List Int)[k]⟩, ((k + 1 : Nat) : Int))) := by
   intro k hk z
   have hlt : (k : Int) < 10 := by omega
   have h1 : rixG ([1000000000, 150, 1, 19, 7, 319, 3, 3, 12, 100] : List Int) (k : Int) = some k := by
     unfold rixG; rw [if_pos ⟨by omega, by simp; omega⟩]; simp
   have h2 : ([1000000000, 150, 1, 19, 7, 319, 3, 3, 12, 100] : List Int)[k]? = some (([1000000000, 150, 1, 19, 7, 319, 3, 3, 12, 100] : List Int)[k]) := List.getElem?_eq_getElem _
   have h3 : (([1000000000, 150, 1, 19, 7, 319, 3, 3, 12, 100] : List Int).length : Int) = 10 := rfl
   simp only [ref12_Limits_l2, io_lt, io_len, h3, hlt, decide_true, cond_true, h1, h2, pixG_some hk, Option.bind_some, io_add, wr_up (k := k) (by omega)]
 have fin : ∀ z : A10 Range, ref12_Limits_l2 [1000000000, 150, 1, 19, 7, 319, 3, 3, 12, 100] (z, ((10 : Nat) : Int)) = some (.inr z) := fun z => by
   simp [ref12_Limits_l2, io_lt, io_len]
 have h0 : (0 : Int) = ((0 : Nat) : Int) := rfl
 rw [h0, whileG_eq, step 0 (by omega)]; simp only []
 rw [whileG_eq, step 1 (by omega)]; simp only []
 rw [whileG_eq, step 2 (by omega)]; simp only []
 rw [whileG_eq, step 3 (by omega)]; simp only []
 rw [whileG_eq, step 4 (by omega)]; simp only []
 rw [whileG_eq, step 5 (by omega)]; simp only []
 rw [whileG_eq, step 6 (by omega)]; simp only []
 rw [whileG_eq, step 7 (by omega)]; simp only []
 rw [whileG_eq, step 8 (by omega)]; simp only []
 rw [whileG_eq, step 9 (by omega)]; simp only []
 rw [whileG_eq, fin]
 rfl
def ratioB (r : Ratio) (most : Int) : Bool :=
 decide (1 ≤ r.Den) && (decide (r.Den ≤ 1000000) && (decide (0 ≤ r.Num) && (decide (r.Num ≤ IntKind.i64.wrap (most * r.Den)) && decide (r.Num ≤ 1000000))))
def numbersB (r : Rule) : Bool :=
 if r.Kind = 1 then decide (0 ≤ r.N) && decide (r.N ≤ 100)
 else if r.Kind = 3 then decide (0 ≤ r.N) && (decide (r.N ≤ 10000000) && (ratioB r.R 1 && ratioB r.S 1))
 else if r.Kind = 4 then ratioB r.R 10 && ratioB r.S 1
 else if r.Kind = 5 then ratioB r.R 1
 else decide (r.Kind = 2) || (decide (r.Kind = 6) || decide (r.Kind = 7))
theorem bif_and {b x : Bool} : (bif b then some x else some false) = some (b && x) := by cases b <;> rfl
theorem numbers_eq (r : Rule) : decide_numbers_g r = some (numbersB r) := by
 unfold decide_numbers_g numbersB ratioB
 simp only [io_eqi, io_le, io_mul]
 by_cases h1 : r.Kind = 1
 · simp only [h1, decide_true, cond_true, if_true, bif_and]
 · by_cases h3 : r.Kind = 3
   · simp only [h3, show ¬ ((3 : Int) = 1) by omega, decide_false, cond_false, decide_true, cond_true, if_true, if_false, bif_and, Bool.and_assoc]
   · by_cases h4 : r.Kind = 4
     · simp only [h4, show ¬ ((4 : Int) = 1) by omega, show ¬ ((4 : Int) = 3) by omega, decide_false, cond_false, decide_true, cond_true, if_true, if_false, bif_and, Bool.and_assoc]
     · by_cases h5 : r.Kind = 5
       · simp only [h5, show ¬ ((5 : Int) = 1) by omega, show ¬ ((5 : Int) = 3) by omega, show ¬ ((5 : Int) = 4) by omega, decide_false, cond_false, decide_true, cond_true, if_true, if_false, bif_and]
       · simp only [h1, h3, h4, h5, decide_false, cond_false, if_false]
         by_cases h2 : r.Kind = 2
         · simp [h2]
         · by_cases h6 : r.Kind = 6
           · simp [h6]
           · by_cases h7 : r.Kind = 7
             · simp [h7]
             · simp [h2, h6, h7]
def withinZ (z : A10 Range) : Bool := (List.range 10).all fun i => decide ((z.get i).Lo ≤ (z.get i).Hi) && (decide ((limZ.get i).Lo ≤ (z.get i).Lo) && decide ((z.get i).Hi ≤ (limZ.get i).Hi))
theorem withinZ_iff {z : A10 Range} : withinZ z = true ↔ ∀ i, i < 10 → (limZ.get i).Lo ≤ (z.get i).Lo ∧ (z.get i).Lo ≤ (z.get i).Hi ∧ (z.get i).Hi ≤ (limZ.get i).Hi := by
 unfold withinZ
 simp only [List.all_eq_true, List.mem_range, Bool.and_eq_true, decide_eq_true_eq]
 exact ⟨fun h i hi => ⟨(h i hi).2.1, (h i hi).1, (h i hi).2.2⟩, fun h i hi => ⟨(h i hi).2.1, (h i hi).1, (h i hi).2.2⟩⟩
theorem withinZ_any (z : A10 Range) : ((List.range 10).any fun i => !(decide ((z.get i).Lo ≤ (z.get i).Hi) && (decide ((limZ.get i).Lo ≤ (z.get i).Lo) && decide ((z.get i).Hi ≤ (limZ.get i).Hi)))) = !withinZ z := by
 unfold withinZ
 rw [List.not_all_eq_any_not]
theorem within_eq (z : A10 Range) : decide_within_g z = some (withinZ z) := by
 unfold decide_within_g
 simp only [Limits_eq, Option.bind_some]
 rw [loop_all (step := decide_within_l2 z limZ) 10 (fun i => !(decide ((z.get i).Lo ≤ (z.get i).Hi) && (decide ((limZ.get i).Lo ≤ (z.get i).Lo) && decide ((z.get i).Hi ≤ (limZ.get i).Hi)))) (.inr false) (.inl ()) (fun k hk => ?_) (by simp [decide_within_l2, io_lt])]
 · rw [withinZ_any]
   cases withinZ z <;> rfl
 · have h10 : (k : Int) < 10 := by omega
   simp only [decide_within_l2, io_lt, h10, decide_true, cond_true, pixG_some hk, Option.bind_some, io_add, wr_up (k := k) (by omega)]
   by_cases h1 : (z.get k).Hi < (z.get k).Lo
   · have h1' : ¬ (z.get k).Lo ≤ (z.get k).Hi := by omega
     simp [h1, h1']
   · have h1' : (z.get k).Lo ≤ (z.get k).Hi := by omega
     by_cases h2 : (z.get k).Lo < (limZ.get k).Lo
     · have h2' : ¬ (limZ.get k).Lo ≤ (z.get k).Lo := by omega
       simp [h1, h1', h2, h2']
     · have h2' : (limZ.get k).Lo ≤ (z.get k).Lo := by omega
       by_cases h3 : (limZ.get k).Hi < (z.get k).Hi
       · have h3' : ¬ (z.get k).Hi ≤ (limZ.get k).Hi := by omega
         simp [h1, h1', h2, h2', h3, h3']
       · have h3' : (z.get k).Hi ≤ (limZ.get k).Hi := by omega
         simp [h1, h1', h2, h2', h3, h3']
def fineAt (p : Policy) (k : Nat) (r : Rule) : Bool := numbersB r && (decide (r.Zones.length ≤ 200) && (r.Zones.all withinZ && !((p.Rules.take k).any fun q => decide (q.Name = r.Name))))
def validB (p : Policy) : Bool := decide (p.Rules.length ≤ 200) && p.Rules.zipIdx.all fun x => fineAt p x.2 x.1
theorem valid_all {p : Policy} (h : validB p = true) {k : Nat} {r : Rule} (hr : p.Rules[k]? = some r) : fineAt p k r = true := by
 simp only [validB, Bool.and_eq_true, List.all_eq_true] at h
 exact h.2 (r, k) (List.mem_zipIdx_iff_getElem?.2 hr)
theorem valid_of {p : Policy} (h1 : p.Rules.length ≤ 200) (h : ∀ (k : Nat) r, p.Rules[k]? = some r → fineAt p k r = true) : validB p = true := by
 simp only [validB, Bool.and_eq_true, List.all_eq_true, decide_eq_true_eq]
 exact ⟨h1, fun x hx => h x.2 x.1 (List.mem_zipIdx_iff_getElem?.1 hx)⟩
theorem not_valid {p : Policy} {k : Nat} {r : Rule} (hr : p.Rules[k]? = some r) (h : fineAt p k r = false) : validB p = false := by
 cases hv : validB p with
 | false => rfl
 | true => rw [valid_all hv hr] at h; cases h
theorem zones_within (x : Rule) (m : List (ByteArray × Bool)) (hx : x.Zones.length ≤ 200) : whileG (decide_Valid_l26 x m) 0 = some (if x.Zones.all withinZ then .inl () else .inr (m, true)) := by
 rw [loop_any (step := decide_Valid_l26 x m) x.Zones (fun z => !withinZ z) (.inr (m, true)) (.inl ()) (fun k z hz => ?_) (by simp [decide_Valid_l26, io_lt, io_len])]
 · rw [← List.not_all_eq_any_not]
   cases x.Zones.all withinZ <;> rfl
 · have hk : k < x.Zones.length := (List.getElem?_eq_some_iff.1 hz).1
   have hlt : (k : Int) < x.Zones.length := by omega
   have hge : (0 : Int) ≤ k := by omega
   simp only [decide_Valid_l26, io_lt, io_len, hlt, decide_true, cond_true, idxG_some hz, Option.bind_some, within_eq, io_not, io_add, wr_up (k := k) (by omega), io_le, hge]
   cases withinZ z <;> simp
theorem Valid_eq (p : Policy) : decide_Valid_g p = some (validB p) := by
 unfold decide_Valid_g
 simp only [io_le, io_len, io_not]
 by_cases hl : p.Rules.length ≤ 200
 · have hl' : (p.Rules.length : Int) ≤ 200 := by omega
   simp only [hl', decide_true, cond_true]
   obtain ⟨t, h1, h2⟩ := loop_up (step := decide_Valid_l22 p) (fun (s : List (ByteArray × Bool)) i => (s, i)) p.Rules.length
     (fun k own => (∀ nm, mlookD own nm false = (p.Rules.take k).any fun q => decide (q.Name = nm)) ∧ ∀ (j : Nat) r, j < k → p.Rules[j]? = some r → fineAt p j r = true)
     (fun t => (t = .inr false ∧ validB p = false) ∨ (∃ own, t = .inl own) ∧ validB p = true)
     (fun k own hk hI => by
       obtain ⟨hI1, hI2⟩ := hI
       have hx : p.Rules[k]? = some p.Rules[k] := by simp [hk]
       have hlt : (k : Int) < p.Rules.length := by omega
       have hge : (0 : Int) ≤ k := by omega
       generalize p.Rules[k] = x at hx
       have hname := hI1 x.Name
       have hf : fineAt p k x = (numbersB x && (decide (x.Zones.length ≤ 200) && (x.Zones.all withinZ && !mlookD own x.Name false))) := by unfold fineAt; rw [hname]
       have bad : fineAt p k x = false → ∀ t, (some (.inr (.inr (!decide ((0 : Int) ≤ k)))) : Option ((List (ByteArray × Bool) × Int) ⊕ (List (ByteArray × Bool) ⊕ Bool))) = some t → ∃ t', some t = some (.inr t') ∧ ((t' = .inr false ∧ validB p = false) ∨ (∃ own, t' = .inl own) ∧ validB p = true) := fun hb t ht => by
         cases ht
         exact ⟨_, rfl, .inl ⟨by simp [hge], not_valid hx hb⟩⟩
       simp only [decide_Valid_l22, io_lt, io_len, hlt, decide_true, cond_true, idxG_some hx, Option.bind_some, numbers_eq, io_not, io_add, wr_up (k := k) (by omega), io_le]
       cases hm : mlookD own x.Name false with
       | true =>
         exact .inr (bad (by rw [hf, hm]; simp) _ rfl)
       | false =>
         simp only [cond_false, Option.bind_some]
         cases hn : numbersB x with
         | false => exact .inr (bad (by rw [hf, hn]; rfl) _ rfl)
         | true =>
           by_cases hz : x.Zones.length ≤ 200
           · have hz' : ¬ ((200 : Int) < x.Zones.length) := by omega
             simp only [Bool.not_true, cond_false, hz', decide_false, zones_within x _ hz]
             cases hw : x.Zones.all withinZ with
             | false => exact .inr (bad (by rw [hf, hw]; simp) _ rfl)
             | true =>
               refine .inl ⟨mputG own x.Name true, by simp [orR], fun nm => ?_, fun j r hj hr => ?_⟩
               · rw [mlookD_mputG, hI1, List.take_add_one, hx]
                 simp only [Option.toList_some, List.any_append, List.any_cons, List.any_nil, Bool.or_false]
                 by_cases e : nm = x.Name
                 · subst e; simp
                 · simp [e, Ne.symm e]
               · rcases Nat.lt_or_eq_of_le (Nat.le_of_lt_succ hj) with h | h
                 · exact hI2 j r h hr
                 · subst h; rw [hx] at hr; cases hr
                   rw [hf, hn, hw, hm]; simp [hz]
           · have hz' : (200 : Int) < x.Zones.length := by omega
             simp only [Bool.not_true, cond_false, hz', decide_true, cond_true]
             exact .inr (bad (by rw [hf]; simp [hz]) _ rfl))
     (fun own hI => ⟨_, by simp [decide_Valid_l22, io_lt, io_len], .inr ⟨⟨own, rfl⟩, valid_of hl fun k r hr => hI.2 k r (List.getElem?_eq_some_iff.1 hr).1 hr⟩⟩)
     [] ⟨fun nm => by simp [mlookD, mlook], fun j r hj => by omega⟩
   rw [h1]
   rcases h2 with ⟨rfl, hv⟩ | ⟨⟨own, rfl⟩, hv⟩
   · rw [hv]; rfl
   · rw [hv]; simp [orR]
 · have hl' : ¬ ((p.Rules.length : Int) ≤ 200) := by omega
   simp only [hl', decide_false, cond_false]
   simp [validB, hl]
end Go.SX.Cl
