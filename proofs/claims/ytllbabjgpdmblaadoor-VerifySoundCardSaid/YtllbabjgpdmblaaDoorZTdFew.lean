/- Parts of the proof. -/
import Derived.Test.YtllbabjgpdmblaaDoorZTdQ3
import Derived.Test.YtllbabjgpdmblaaDoorZTd13
import Derived.Test.YtllbabjgpdmblaaDoorZTd18d
import Derived.Test.YtllbabjgpdmblaaDoorZTdV4
import Derived.Test.YtllbabjgpdmblaaDoorZTdCompact
set_option linter.unusedSimpArgs false
set_option linter.unusedVariables false
set_option linter.unusedSectionVars false
namespace Go.SX.Td
open Go Go.SX Tb
def sumZ (l : List Rule) : Int := l.foldl (fun s r => IntKind.i64.wrap (s + r.Zones.length)) 0
def LenP (p : Policy) : Prop := p.Rules.length ≤ 9223372036854775807
theorem Few_eq {p : Policy} (hp : LenP p) : ∃ b, ref14_Few_g p = some b ∧ (b = true → p.Rules.length ≤ 8 ∧ sumZ p.Rules ≤ 10) := by
 unfold LenP at hp
 obtain ⟨r, h1, h2⟩ := loop_up (step := ref14_Few_l2 p) (fun (s : Int) i => (s, i)) p.Rules.length
  (fun k s => s = sumZ (p.Rules.take k)) (fun r => r = .inr false ∨ r = .inl (sumZ p.Rules)) (fun k s hk hI => by
  subst hI
  have hx : p.Rules[k]? = some p.Rules[k] := by simp [hk]
  rw [List.take_add_one, hx, Option.toList_some]
  generalize p.Rules[k] = x at hx
  have hlt : (k : Int) < p.Rules.length := by omega
  simp only [ref14_Few_l2, io_lt, io_len, hlt, decide_true, cond_true, idxG_some hx, Option.bind_some, io_ssz, io_add, wr_up (k := k) (by omega)]
  by_cases h : (60 : Int) < (x.Name.size : Int)
  ·exact .inr ⟨.inr false, by rw [decide_eq_true h]; rfl, .inl rfl⟩
  ·exact .inl ⟨_, by rw [decide_eq_false h]; rfl, by unfold sumZ; rw [List.foldl_append]; rfl⟩) (fun s hI => by
  subst hI
  have hlt : ¬ ((p.Rules.length : Int) < p.Rules.length) := by omega
  exact ⟨_, by simp only [ref14_Few_l2, io_lt, io_len, hlt, decide_false, cond_false]; rfl, .inr (by rw [List.take_length])⟩) 0 (by simp [sumZ])
 unfold ref14_Few_g
 rw [h1]
 rcases h2 with rfl | rfl
 ·exact ⟨false, rfl, fun h => by cases h⟩
 ·simp only [orR, Option.bind_some, io_le, io_len]
  by_cases h : (p.Rules.length : Int) ≤ 8
  ·exact ⟨decide (sumZ p.Rules ≤ 10), by rw [decide_eq_true h]; rfl, fun hb => ⟨by omega, by simpa using hb⟩⟩
  ·exact ⟨false, by rw [decide_eq_false h]; rfl, fun h => by cases h⟩
theorem valid_zones {p : Policy} (hv : validB p = true) : ∀ r ∈ p.Rules, r.Zones.length ≤ 200 := fun r hr => by
 obtain ⟨k, hk⟩ := List.getElem?_of_mem hr
 have := valid_all hv hk
 simp only [fineAt, Bool.and_eq_true, decide_eq_true_eq] at this
 exact this.2.1
theorem sumZ_eq : ∀ {l : List Rule}, l.length ≤ 8 → (∀ r ∈ l, r.Zones.length ≤ 200) → ∀ s : Int, 0 ≤ s → s + l.length * 200 ≤ 10000 → l.foldl (fun s r => IntKind.i64.wrap (s + r.Zones.length)) s = s + ((l.flatMap (·.Zones)).length : Nat)
 | [], _, _, s, _, _ => by simp
 | r :: l, hl, hz, s, h0, hs => by
  have h1 := hz r (by simp)
  rw [List.length_cons] at hs hl
  rw [List.foldl_cons, wr64 (by omega) (by omega), sumZ_eq (by omega) (fun r hr => hz r (by simp [hr])) _ (by omega) (by omega), List.flatMap_cons, List.length_append]
  omega
theorem few_zones {p : Policy} (hv : validB p = true) (h : p.Rules.length ≤ 8 ∧ sumZ p.Rules ≤ 10) : (zonesOf p).length ≤ 10 := by
 have := sumZ_eq h.1 (valid_zones hv) 0 (by omega) (by omega)
 have h2 := h.2
 unfold sumZ at h2
 rw [this] at h2
 show (p.Rules.flatMap (·.Zones)).length ≤ 10
 omega
open Classical in
theorem Within_eq (f : A10 Int) : ref14_Within_g f = some (decide (limL.In (toF f))) := by
 unfold ref14_Within_g
 simp only [refLimits_eq, Option.bind_some]
 rw [loop_all (step := ref14_Within_l2 f limZ) 10 (fun k => decide (f.get k < (limZ.get k).Lo) || decide ((limZ.get k).Hi < f.get k)) (.inr false) (.inl ()) (fun k hk => by
  have hlt : (k : Int) < 10 := by omega
  simp only [ref14_Within_l2, io_lt, hlt, decide_true, cond_true, pixG_some hk, Option.bind_some, io_add, wr_up (k := k) (by omega)]
  by_cases h : f.get k < (limZ.get k).Lo
  ·simp [h]
  ·by_cases h' : (limZ.get k).Hi < f.get k
   ·simp [h, h']
   ·simp [h, h']) (by simp [ref14_Within_l2, io_lt])]
 have key : ((List.range 10).any fun k => decide (f.get k < (limZ.get k).Lo) || decide ((limZ.get k).Hi < f.get k)) = !decide (limL.In (toF f)) := by
  rw [Bool.eq_iff_iff]
  simp only [List.any_eq_true, List.mem_range, Bool.or_eq_true, decide_eq_true_eq, Bool.not_eq_true', decide_eq_false_iff_not]
  constructor
  ·rintro ⟨k, hk, h⟩ hin
   have h1 : (limZ.get k).Lo ≤ toF f k ∧ toF f k ≤ (limZ.get k).Hi := hin k hk
   rw [toF_get f hk] at h1
   omega
  ·intro h
   refine Classical.byContradiction fun hno => h fun k hk => ?_
   show (limZ.get k).Lo ≤ toF f k ∧ toF f k ≤ (limZ.get k).Hi
   rw [toF_get f hk]
   have : ¬ (f.get k < (limZ.get k).Lo ∨ (limZ.get k).Hi < f.get k) := fun h => hno ⟨k, hk, h⟩
   omega
 rw [key]
 by_cases h : limL.In (toF f)
 ·simp [h, orR]
 ·simp [h, orR]
end Go.SX.Td
namespace Go.SX.Td
open Go Go.SX Tb
theorem qA10_eq (x y : A10 Int) : qA10Ii64 x y = decide (x = y) := by
 obtain ⟨a0, a1, a2, a3, a4, a5, a6, a7, a8, a9⟩ := x
 obtain ⟨b0, b1, b2, b3, b4, b5, b6, b7, b8, b9⟩ := y
 rw [Bool.eq_iff_iff]
 simp only [qA10Ii64, io_and, io_eqi, Bool.and_eq_true, decide_eq_true_eq, A10.mk.injEq]
abbrev noneD : Decision := Decision.mk false false false 0 0 (Ratio.mk 0 1) (Ratio.mk 0 1) (Ratio.mk 0 1) (Ratio.mk 0 1) (Ratio.mk 0 1) (-1)
abbrev fiveD : Decision := Decision.mk false false false 0 5 (Ratio.mk 0 1) (Ratio.mk 0 1) (Ratio.mk 0 1) (Ratio.mk 0 1) (Ratio.mk 0 1) (-1)
abbrev yesD : Decision := Decision.mk true false false 0 100 (Ratio.mk 0 1) (Ratio.mk 0 1) (Ratio.mk 0 1) (Ratio.mk 0 1) (Ratio.mk 0 1) 0
abbrev noD : Decision := Decision.mk false false false 0 100 (Ratio.mk 0 1) (Ratio.mk 0 1) (Ratio.mk 0 1) (Ratio.mk 0 1) (Ratio.mk 0 1) 0
def startA : A10 Int := toA fun j => (limZ.get j).Lo
theorem start_eq : ref15_Start_g = some startA := by
 unfold ref15_Start_g
 simp only [refLimits_eq, Option.bind_some]
 obtain ⟨q, h1, rfl⟩ := loop_up (step := ref15_Start_l2 limZ) (fun (s : A10 Int) i => (s, i)) 10 (fun k s => ∀ j, j < 10 → s.get j = if j < k then (limZ.get j).Lo else 0) (fun q => q = startA)
  (fun k s hk hI => by
   have hlt : (k : Int) < 10 := by omega
   refine .inl ⟨s.put k (limZ.get k).Lo, by simp only [ref15_Start_l2, io_lt, hlt, decide_true, cond_true, pixG_some hk, Option.bind_some, io_add, wr_up (k := k) (by omega)], fun j hj => ?_⟩
   rw [A10.get_put _ _ _ _ hk hj, hI j hj]
   by_cases h : j = k
   ·subst h; simp
   ·rw [if_neg h]
    by_cases h2 : j < k
    ·rw [if_pos h2, if_pos (by omega)]
    ·rw [if_neg h2, if_neg (by omega)]) (fun s hI => by
   refine ⟨s, by simp [ref15_Start_l2, io_lt], A10.ext_get fun j hj => ?_⟩
   rw [hI j hj, if_pos hj, startA, toA_get _ j hj]) (A10.mk 0 0 0 0 0 0 0 0 0 0) (fun j hj => by
   match j, hj with
   | 0, _ | 1, _ | 2, _ | 3, _ | 4, _ | 5, _ | 6, _ | 7, _ | 8, _ | 9, _ => rfl)
 have h1' : whileG (ref15_Start_l2 limZ) (A10.mk 0 0 0 0 0 0 0 0 0 0, 0) = some startA := h1
 rw [h1']; rfl
theorem start_get {j : Nat} (hj : j < 10) : toF startA j = limL.lo j := by rw [toF_get _ hj, startA, toA_get _ j hj]; rfl
theorem start_in : limL.In (toF startA) := fun j hj => by rw [start_get hj]; exact ⟨Int.le_refl _, limL_ok j⟩
def lateA : A10 Int := startA.put 1 18
theorem late_get {j : Nat} (hj : j < 10) : toF lateA j = if j = 1 then 18 else limL.lo j := by
 rw [toF_get _ hj, lateA, A10.get_put _ _ _ _ (by omega) hj]
 split
 ·rfl
 ·rw [← toF_get _ hj, start_get hj]
theorem late_in : limL.In (toF lateA) := fun j hj => by
 rw [late_get hj]
 split
 ·rename_i h; subst h; decide
 ·exact ⟨Int.le_refl _, limL_ok j⟩
def t2 (d0 d1 : Decision) : Tab Decision := ⟨[⟨1, [18], [1, 2], 0⟩, ⟨0, [], [], 0⟩, ⟨0, [], [], 1⟩], [d0, d1]⟩
theorem t2_canon {d0 d1 : Decision} (h : d0 ≠ d1) : (t2 d0 d1).Canon limL where
 ok := ⟨fun x hx => by
  match x, hx with
  | 0, _ => exact fine_two (by decide) (by decide) (by decide) ⟨by show 1 < 3; decide, by show 1 < 10; decide⟩ ⟨by show 2 < 3; decide, by show 1 < 10; decide⟩
  | 1, _ => exact fine_leaf (show 0 < 2 by decide)
  | 2, _ => exact fine_leaf (show 1 < 2 by decide), by simp [t2], by simp [t2, h]⟩
 pos := by show 0 < 3; decide
 walk := by rfl
 leaf x hx hk := by
  match x, hx with
  | 0, _ => cases hk
  | 1, _ => rfl
  | 2, _ => rfl
 all := by rfl
theorem t2_val (d0 d1 : Decision) (g : Fa) : (t2 d0 d1).val g 0 = if 18 ≤ g 1 then d1 else d0 := by
 by_cases h : 18 ≤ g 1
 ·rw [if_pos h]; simp [Tab.val, Tab.valN, Tab.nd, t2, kidx, h]
 ·rw [if_neg h]; simp [Tab.val, Tab.valN, Tab.nd, t2, kidx, h]
theorem t2_Bd (d0 d1 : Decision) : ∀ n ∈ (t2 d0 d1).ns, Bd n := fun n hn => by
 simp only [t2, List.mem_cons, List.not_mem_nil, or_false] at hn
 rcases hn with rfl | rfl | rfl
 ·exact Bd_small (by simp) (by simp) (by simp) (by simp) (by simp) (by simp)
 ·exact Bd_small (by simp) (by simp) (by simp) (by simp) (by simp) (by simp)
 ·exact Bd_small (by simp) (by simp) (by simp) (by simp) (by simp) (by simp)
theorem t1_Bd (d : Decision) : ∀ n ∈ (t1 d).ns, Bd n := fun n hn => by
 simp only [t1, List.mem_cons, List.not_mem_nil, or_false] at hn
 subst hn
 exact Bd_small (by simp) (by simp) (by simp) (by simp) (by simp) (by simp)
abbrev hA : Rule := ⟨1, ⟨#[97]⟩, [limZ], 0, ⟨0, 0⟩, ⟨0, 0⟩⟩
abbrev hB : Rule := ⟨3, ⟨#[112]⟩, [limZ], 100, ⟨0, 1⟩, ⟨0, 1⟩⟩
theorem hv2 : validB ⟨[hA, hB]⟩ = true := by decide +kernel
theorem hg2 : PG ⟨[hA, hB]⟩ := PG0 hv2 (by show 2 ≤ 10; decide)
theorem hz2 : ∀ r ∈ [hA, hB], r.Zones.length ≤ 1000 := fun r hr => by
 simp only [List.mem_cons, List.not_mem_nil, or_false] at hr
 rcases hr with rfl | rfl
 ·show 1 ≤ 1000; decide
 ·show 1 ≤ 1000; decide
theorem dec0 (f : A10 Int) : decS ⟨[]⟩ f = noneD := by rw [decS_jd]; rfl
theorem dec2 {f : A10 Int} (hf : limL.In (toF f)) : decS ⟨[hA, hB]⟩ f = yesD := by
 have h := inZ_lim hf
 rw [toA_toF] at h
 have h1 : holds hA f = true := by simp [holds, h]
 have h2 : holds hB f = true := by simp [holds, h]
 rw [decS_jd]
 simp only [List.map_cons, List.map_nil, h1, h2]
 rfl
theorem law15_head_eq : law15_head_g = some true := by
 have e1 : verify_Differ_g (Policy.mk []) (Table.mk [Node.mk 0 [] [] 0] [noneD]) = some (A0, false) := by
  obtain ⟨g, b, e, H⟩ := Differ_eq g0 (by simp) (by simp) v0 (t1_canon noneD) (t1_Bd _) (by simp [t1]) (by simp [t1])
  have e' : verify_Differ_g (Policy.mk []) (Table.mk [Node.mk 0 [] [] 0] [noneD]) = some (g, b) := e
  rw [e']
  cases b with
  | false => rw [(H.no rfl).1]
  | true => exact absurd (dec0 g) (H.yes rfl).2.1
 have e2 : verify_Differ_g (Policy.mk []) (Table.mk [Node.mk 0 [] [] 0] [fiveD]) = some (startA, true) := by
  obtain ⟨g, b, e, H⟩ := Differ_eq g0 (by simp) (by simp) v0 (t1_canon fiveD) (t1_Bd _) (by simp [t1]) (by simp [t1])
  have e' : verify_Differ_g (Policy.mk []) (Table.mk [Node.mk 0 [] [] 0] [fiveD]) = some (g, b) := e
  obtain ⟨rfl, rfl⟩ := H.least start_in (by rw [dec0, t1_val]; decide) (fun f hf _ j hj => by rw [start_get hj]; exact (hf j hj).1)
  exact e'
 have hne : noD ≠ yesD := by decide
 have e3 : verify_Differ_g (Policy.mk [hA, hB]) (Table.mk [Node.mk 1 [18] [1, 2] 0, Node.mk 0 [] [] 0, Node.mk 0 [] [] 1] [noD, yesD]) = some (startA, true) := by
  obtain ⟨g, b, e, H⟩ := Differ_eq hg2 (by simp) hz2 hv2 (t2_canon hne) (t2_Bd _ _) (by simp [t2]) (by simp [t2])
  have e' : verify_Differ_g (Policy.mk [hA, hB]) (Table.mk [Node.mk 1 [18] [1, 2] 0, Node.mk 0 [] [] 0, Node.mk 0 [] [] 1] [noD, yesD]) = some (g, b) := e
  obtain ⟨rfl, rfl⟩ := H.least start_in (by rw [dec2 start_in, t2_val, start_get (by omega)]; decide) (fun f hf _ j hj => by rw [start_get hj]; exact (hf j hj).1)
  exact e'
 have e4 : verify_Differ_g (Policy.mk [hA, hB]) (Table.mk [Node.mk 1 [18] [1, 2] 0, Node.mk 0 [] [] 0, Node.mk 0 [] [] 1] [yesD, noD]) = some (lateA, true) := by
  obtain ⟨g, b, e, H⟩ := Differ_eq hg2 (by simp) hz2 hv2 (t2_canon (Ne.symm hne)) (t2_Bd _ _) (by simp [t2]) (by simp [t2])
  have e' : verify_Differ_g (Policy.mk [hA, hB]) (Table.mk [Node.mk 1 [18] [1, 2] 0, Node.mk 0 [] [] 0, Node.mk 0 [] [] 1] [yesD, noD]) = some (g, b) := e
  obtain ⟨rfl, rfl⟩ := H.least late_in (by rw [dec2 late_in, t2_val, late_get (by omega)]; decide) (fun f hf hd j hj => by
   rw [late_get hj]
   split
   ·rename_i h1
    subst h1
    rw [dec2 hf, t2_val] at hd
    refine Classical.byContradiction fun h2 => hd ?_
    rw [if_neg h2]
   ·exact (hf j hj).1)
  exact e'
 have e5 : verify_Differ_g (Policy.mk [hA, hB]) (Table.mk [] []) = some (A0, true) := Differ_bad (.inr empty_Valid) ⟨_, empty_Valid⟩
 have q1 : qA10Ii64 A0 (A10.mk 0 0 0 0 0 0 0 0 0 0) = true := by rw [qA10_eq]; rfl
 have q2 : qA10Ii64 startA startA = true := by rw [qA10_eq]; simp
 have q3 : qA10Ii64 lateA (A10.mk startA.a0 18 startA.a2 startA.a3 startA.a4 startA.a5 startA.a6 startA.a7 startA.a8 startA.a9) = true := by rw [qA10_eq]; rfl
 unfold law15_head_g
 simp only [law15_none_g, Option.bind_some, refLimits_eq, start_eq, e1, e2, e3, e4, e5, q1, q2, q3, io_not, Bool.not_false, cond_true]
theorem few_cases {p : Policy} (hp : LenP p) {T : Table} (hT : TabIn T) : law15_few_g p T = some false ∨ law15_few_g p T = some true ∧ (p.Rules.length ≤ 8 ∧ sumZ p.Rules ≤ 10) ∧ SmallT T := by
 obtain ⟨b, hb, h1⟩ := Few_eq hp
 obtain ⟨b2, hb2, h2⟩ := Small_eq hT.1
 unfold law15_few_g
 simp only [hb, hb2, Option.bind_some]
 cases b with
 | false => exact .inl rfl
 | true =>
  cases b2 with
  | false => exact .inl rfl
  | true =>
   obtain ⟨s1, s2, s3⟩ := h2 rfl
   exact .inr ⟨rfl, h1 rfl, s1, s2, fun N hN => ⟨(s3 N hN).1, (s3 N hN).2, (hT.2 N hN).1, (hT.2 N hN).2.1, (hT.2 N hN).2.2.1, (hT.2 N hN).2.2.2⟩⟩
theorem small_cases {T : Table} (S : SmallT T) : table_Valid_g T = some false ∨ ∃ t : Tab Decision, T = tabE t ∧ (∀ n ∈ t.ns, Bd n) ∧ t.Canon limL ∧ table_Valid_g (tabE t) = some true ∧ t.ns.length ≤ 60 ∧ t.ls.length ≤ 60 := by
 rcases Valid_any S with h | ⟨t, rfl, hb, c, e⟩
 ·exact .inl h
 ·refine .inr ⟨t, rfl, hb, c, e, ?_, S.leaves⟩
  have := S.nodes
  rwa [show (tabE t).Nodes.length = t.ns.length by simp [tabE]] at this
theorem zones_small {p : Policy} (hv : validB p = true) : ∀ r ∈ p.Rules, r.Zones.length ≤ 1000 := fun r hr => by have := valid_zones hv r hr; omega
end Go.SX.Td
namespace Go.SX.Td
open Go Go.SX Tb
theorem decS_more (p : Policy) (x : Rule) (hx : x.Zones = []) (f : A10 Int) : decS ⟨p.Rules ++ [x]⟩ f = decS p f := by
 unfold decS
 have hh : holds x f = false := by unfold holds; rw [hx]; rfl
 rw [List.foldl_append]
 simp only [List.foldl_cons, List.foldl_nil, stepJ, hh, Bool.false_eq_true, if_false]
theorem VerifyRules_eq {p : Policy} (hp : LenP p) {T : Table} (hT : TabIn T) (k : Int) : law15_VerifyRules_g p T k = some true := by
 unfold law15_VerifyRules_g
 rcases few_cases hp hT with h | ⟨h, hf, S⟩
 ·simp only [law15_head_eq, h, Option.bind_some, io_not, Bool.not_false, cond_true]
 ·simp only [law15_head_eq, h, Option.bind_some, io_not, Bool.not_true, cond_false, Valid_eq, io_lt, io_len]
  by_cases h7 : (7 : Int) < p.Rules.length
  ·rw [decide_eq_true h7]
   simp only [cond_true, Option.bind_some]
  ·rw [decide_eq_false h7]
   cases hvp : validB p with
   | false => simp only [cond_false, Bool.not_false, cond_true, Option.bind_some]
   | true =>
    have hdiv : divG (7 : Int) = some () := by unfold divG; rw [if_neg (by decide)]
    generalize io.ar .add .i64 1 (io.rem (io.wrap .i64 k) 7) = K
    have hden : ∃ d : Int × Int, (Option.bind (bif io.eq K 3 then some true else bif io.eq K 4 then some true else some (io.eq K 5)) fun v7 => bif v7 then some ((1 : Int), (1 : Int)) else some (0, 0)) = some d := by
     cases io.eq K 3 <;> cases io.eq K 4 <;> cases io.eq K 5 <;> exact ⟨_, rfl⟩
    obtain ⟨⟨d1, d2⟩, hden⟩ := hden
    have a1 : appG ([] : List Rule) p.Rules = some p.Rules := by rw [appG_some (by simp; omega)]; rfl
    have a2 : ∀ x, appG p.Rules [x] = some (p.Rules ++ [x]) := fun x => appG_some (by simp; omega)
    simp only [cond_false, Bool.not_true, Option.bind_some, hdiv, hden, a1, a2]
    generalize hxx : Rule.mk K (⟨#[102, 117, 114, 116, 104, 101, 114]⟩) [] 0 (Ratio.mk 0 d1) (Ratio.mk 0 d2) = x
    have hx : x.Zones = [] := by rw [← hxx]
    cases hvq : validB ⟨p.Rules ++ [x]⟩ with
    | false => simp only [Bool.not_false, cond_true]
    | true =>
     have hzq : zonesOf ⟨p.Rules ++ [x]⟩ = zonesOf p := by
      show (p.Rules ++ [x]).flatMap (·.Zones) = p.Rules.flatMap (·.Zones)
      rw [List.flatMap_append]; simp [hx]
     have fin : ∀ (g : A10 Int) (b : Bool), (bif qA10Ii64 g g then some (io.beq false b b) else some false) = some true := fun g b => by
      rw [qA10_eq, decide_eq_true rfl, cond_true, io_beq]; simp
     rcases small_cases S with hv | ⟨t, rfl, hb, c, e, n1, n2⟩
     ·have e1 := Differ_bad (p := p) (.inr hv) ⟨_, hv⟩
      have e2 := Differ_bad (p := ⟨p.Rules ++ [x]⟩) (.inr hv) ⟨_, hv⟩
      simp only [Bool.not_true, cond_false, e1, e2, Option.bind_some, cond_true]
      exact fin _ _
     ·have G := PG_few hvp (few_zones hvp hf)
      have G2 : PG ⟨p.Rules ++ [x]⟩ := PG_few hvq (by rw [hzq]; exact few_zones hvp hf)
      obtain ⟨g, b, e1, H⟩ := Differ_eq G (by omega) (zones_small hvp) hvp c hb (by omega) (by omega)
      obtain ⟨g2, b2, e2, H2⟩ := Differ_eq G2 (by show (p.Rules ++ [x]).length ≤ _; simp; omega) (zones_small hvq) hvq c hb (by omega) (by omega)
      obtain ⟨rfl, rfl⟩ := H.unique H2 fun f _ => (decS_more p x hx f).symm
      simp only [Bool.not_true, cond_false, e1, e2, Option.bind_some, cond_true]
      exact fin _ _
end Go.SX.Td
