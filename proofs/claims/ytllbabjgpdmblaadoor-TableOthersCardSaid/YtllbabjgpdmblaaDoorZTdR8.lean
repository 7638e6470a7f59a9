/- Parts of the proof. -/
import Derived.Test.YtllbabjgpdmblaaDoorZTdR6
import Derived.Test.YtllbabjgpdmblaaDoorZTd10d
set_option linter.unusedSimpArgs false
set_option linter.unusedVariables false
set_option linter.unusedSectionVars false
namespace Go.SX.Td
open Go Go.SX Tb
abbrev zeroD : Decision := Decision.mk false false false 0 0 (Ratio.mk 0 0) (Ratio.mk 0 0) (Ratio.mk 0 0) (Ratio.mk 0 0) (Ratio.mk 0 0) 0
def Bad (f : A10 Int) (T : Table) : Prop := table_Valid_g T = some false ∧ table_Lookup_g T f = some zeroD
theorem bad_of {t : Tab Decision} (hb : ∀ n ∈ t.ns, Bd n) (hL : t.ls.length ≤ 1000000) (hc : ¬ t.Canon limL) (f : A10 Int) : Bad f (tabE t) := by
 obtain ⟨b, e, hbv⟩ := Valid_tab hb hL
 have hb1 : b = false := by
  cases b with
  | false => rfl
  | true => exact absurd (hbv.1 rfl).1 hc
 exact ⟨by rw [e, hb1], Lookup_bad hc hb hL f⟩
theorem others_loop (f : A10 Int) (l : List Table) (hl : l.length ≤ 1000) (h : ∀ T ∈ l, Bad f T) : whileG (law14_TableOthers_l2 l f) 0 = some (.inl ()) := by
 rw [loop_all (step := law14_TableOthers_l2 l f) l.length (fun _ => false) (.inr false) (.inl ()) (fun k hk => by
  have hx : l[k]? = some l[k] := by simp [hk]
  obtain ⟨b1, b2⟩ := h l[k] (List.getElem_mem _)
  generalize l[k] = T at hx b1 b2
  have hlt : (k : Int) < l.length := by omega
  have hr : rixG l (k : Int) = some k := by unfold rixG; rw [if_pos (by omega)]; simp
  simp only [law14_TableOthers_l2, io_lt, io_len, hlt, decide_true, cond_true, hr, hx, b1, b2, Option.bind_some, cond_false, io_not, qDecision_eq, Bool.not_true, io_add, wr_up (k := k) (by omega), Bool.false_eq_true, if_false]) (by simp [law14_TableOthers_l2, io_lt, io_len])]
 simp
theorem rem_ok {a : Int} (h : 0 ≤ a ∧ a ≤ 255) {m : Nat} (hm : 0 < m) : ∃ i : Nat, i < m ∧ (IntKind.i64.wrap a).tmod (m : Int) = (i : Int) := by
 refine ⟨(a.tmod m).toNat, ?_, ?_⟩
 ·have h3 := Int.tmod_lt_of_pos a (show (0 : Int) < m by omega)
  have h4 := Int.tmod_nonneg (m : Int) h.1
  omega
 ·have h4 := Int.tmod_nonneg (m : Int) h.1
  rw [wr64 (by omega) (by omega)]; omega
theorem lcnt_map (t : Tab Decision) (k : Nat) : lcnt t k = (((t.ns.map fun n => n.kids.isEmpty).take k).filter id).length := by
 unfold lcnt
 rw [← List.map_take, List.filter_map, List.length_map]
 rfl
section
variable {t : Tab Decision}
theorem ns_get {i : Nat} (hi : i < t.ns.length) : t.ns[i]? = some (t.nd i) := by unfold Tab.nd; rw [List.getD_eq_getElem?_getD, List.getElem?_eq_getElem hi]; rfl
theorem ns_mem {i : Nat} (hi : i < t.ns.length) : t.nd i ∈ t.ns := List.mem_of_getElem? (ns_get hi)
theorem no_twice (c : t.Canon limL) : ¬ (⟨t.ns ++ [t.nd 0], t.ls⟩ : Tab Decision).Canon limL := fun c' => by
 have := c'.ok.nodup
 rw [List.nodup_append] at this
 exact this.2.2 _ (ns_mem c.pos) _ (by simp) rfl
theorem no_more (c : t.Canon limL) (d : Decision) : ¬ (⟨t.ns, t.ls ++ [d]⟩ : Tab Decision).Canon limL := fun c' => by
 have h1 := c'.all
 have h2 := c.all
 simp only [List.length_append, List.length_singleton] at h1
 omega
theorem no_kid (c : t.Canon limL) {i k0 k1 : Nat} {K : List Nat} (hi : i < t.ns.length) (hk : (t.nd i).kids = k0 :: k1 :: K) : ¬ (⟨t.ns.set i ⟨(t.nd i).attr, (t.nd i).cuts, k0 :: k0 :: K, (t.nd i).leaf⟩, t.ls⟩ : Tab Decision).Canon limL := fun c' => by
 have h := c'.ok.fine i (by simpa using hi)
 have e : (⟨t.ns.set i ⟨(t.nd i).attr, (t.nd i).cuts, k0 :: k0 :: K, (t.nd i).leaf⟩, t.ls⟩ : Tab Decision).nd i = ⟨(t.nd i).attr, (t.nd i).cuts, k0 :: k0 :: K, (t.nd i).leaf⟩ := by
  unfold Tab.nd; rw [List.getD_eq_getElem?_getD, List.getElem?_set_self hi]; rfl
 rw [e] at h
 exact h.adj.1 rfl
theorem no_swap (c : t.Canon limL) {i j : Nat} (hi : i < t.ns.length) (hj : j < t.ns.length) (hij : i ≠ j) (ki : (t.nd i).kids = []) (kj : (t.nd j).kids = []) : ¬ (⟨(t.ns.set i (t.nd j)).set j (t.nd i), t.ls⟩ : Tab Decision).Canon limL := fun c' => by
 have e : (⟨(t.ns.set i (t.nd j)).set j (t.nd i), t.ls⟩ : Tab Decision).nd i = t.nd j := by
  unfold Tab.nd; rw [List.getD_eq_getElem?_getD, List.getElem?_set_ne (Ne.symm hij), List.getElem?_set_self hi]; rfl
 have h := c'.leaf i (by simpa using hi) (by rw [e]; exact kj)
 rw [e] at h
 have hm : (((t.ns.set i (t.nd j)).set j (t.nd i)).map fun n => n.kids.isEmpty) = t.ns.map fun n => n.kids.isEmpty := by
  refine List.ext_getElem? fun k => ?_
  rw [List.getElem?_map, List.getElem?_map]
  by_cases h1 : k = j
  ·subst h1
   rw [List.getElem?_set_self (by simpa using hj), ns_get hj, Option.map_some, Option.map_some, ki, kj]
  ·rw [List.getElem?_set_ne (Ne.symm h1)]
   by_cases h2 : k = i
   ·subst h2
    rw [List.getElem?_set_self hi, ns_get hi, Option.map_some, Option.map_some, ki, kj]
   ·rw [List.getElem?_set_ne (Ne.symm h2)]
 have hl : lcnt (⟨(t.ns.set i (t.nd j)).set j (t.nd i), t.ls⟩ : Tab Decision) i = lcnt t i := by rw [lcnt_map, lcnt_map]; simp only [hm]
 have h0 := c.leaf i hi ki
 have h' : (t.nd j).leaf = (t.nd i).leaf := h.trans (hl.trans h0.symm)
 have fi := (c.ok.fine i hi).leaf ki
 have fj := (c.ok.fine j hj).leaf kj
 have en : t.nd i = t.nd j := by
  revert fi fj h' ki kj
  generalize t.nd i = x
  generalize t.nd j = y
  intro ki kj h' fi fj
  obtain ⟨x1, x2, x3, x4⟩ := x
  obtain ⟨y1, y2, y3, y4⟩ := y
  simp only at ki kj h' fi fj
  obtain ⟨fi1, fi2, -⟩ := fi
  obtain ⟨fj1, fj2, -⟩ := fj
  subst ki kj h' fi1 fi2 fj1 fj2; rfl
 exact hij (nodup_inj? c.ok.nodup (ns_get hi) (en ▸ ns_get hj))
end
theorem TableOthers_eq {p : Policy} (hp : LenP p) {a b : Int} (ha : 0 ≤ a ∧ a ≤ 255) (hb' : 0 ≤ b ∧ b ≤ 255) (f : A10 Int) : law14_TableOthers_g p a b f = some true := by
 obtain ⟨bb, hb, hfew⟩ := Few_eq hp
 unfold law14_TableOthers_g
 simp only [head_eq, Option.bind_some, hb]
 cases bb with
 | false => simp only [io_not, Bool.not_false, cond_true]
 | true =>
  simp only [io_not, Bool.not_true, cond_false]
  cases hv : validB p with
  | false => simp only [Build_bad hv, Option.bind_some, io_eqi]; rfl
  | true =>
   have G := PG_few hv (few_zones hv (hfew rfl))
   obtain ⟨n1, n2⟩ := builtT_len G
   have c := (builtT_ok p).1
   have hbd := builtT_Bd G
   rw [Build_eq G hv]
   obtain ⟨y, -, y2, y3, -⟩ := down_loop c.ok hbd f 11 0 c.pos (by omega)
   have hleaf := ((c.ok.fine y y2).leaf y3).2.2
   generalize builtT p = t at c hbd n1 n2 y2 y3 hleaf
   have hnl : (tabE t).Nodes.length = t.ns.length := by simp [tabE]
   have hll : (tabE t).Leaves.length = t.ls.length := rfl
   have hpos := c.pos
   have z1 : ¬ ((t.ns.length : Nat) : Int) = 0 := by omega
   have z2 : ¬ ((t.ls.length : Nat) : Int) = 0 := by omega
   have hdiv : divG ((t.ns.length : Nat) : Int) = some () := by unfold divG; rw [if_neg z1]
   obtain ⟨i, hi, ei⟩ := rem_ok ha hpos
   obtain ⟨j, hj, ej⟩ := rem_ok hb' hpos
   have gi : idxG (tabE t).Nodes (i : Int) = some (encN (t.nd i)) := idxG_some (encs_get hi)
   have gj : idxG (tabE t).Nodes (j : Int) = some (encN (t.nd j)) := idxG_some (encs_get hj)
   have g0 : idxG (tabE t).Nodes 0 = some (encN (t.nd 0)) := idxG_some (k := 0) (encs_get hpos)
   have app0 : appG ([] : List Node) (tabE t).Nodes = some (tabE t).Nodes := by rw [appG_some (by rw [hnl]; simp; omega)]; rfl
   have app1 : appG (tabE t).Nodes [encN (t.nd 0)] = some (t.ns ++ [t.nd 0] |>.map encN) := by rw [appG_some (by rw [hnl]; simp; omega)]; simp [tabE]
   have app2 : appG ([] : List Decision) (tabE t).Leaves = some t.ls := by rw [appG_some (by rw [hll]; simp; omega)]; rfl
   have app3 : ∀ d, appG t.ls [d] = some (t.ls ++ [d]) := fun d => appG_some (by simp; omega)
   have ri : ∀ l : List Node, l.length = t.ns.length → rixG l (i : Int) = some i := fun l h => by unfold rixG; rw [if_pos (by omega)]; simp
   have rj : ∀ l : List Node, l.length = t.ns.length → rixG l (j : Int) = some j := fun l h => by unfold rixG; rw [if_pos (by omega)]; simp
   have ki : ((encN (t.nd i)).Kids.length : Int) = ((t.nd i).kids.length : Nat) := by simp [encN, ints_len]
   have kj : ((encN (t.nd j)).Kids.length : Int) = ((t.nd j).kids.length : Nat) := by simp [encN, ints_len]
   have bi := hbd _ (ns_mem hi)
   have bj := hbd _ (ns_mem hj)
   have s1 : ∃ l5 : List Table, l5.length ≤ 1 ∧ (∀ T ∈ l5, Bad f T) ∧
     (Option.bind (bif !decide ((i : Int) = (j : Int)) then (Option.bind (idxG (tabE t).Nodes (i : Int)) fun x7 => Option.bind (idxG (tabE t).Nodes (j : Int)) fun x8 => some (decide (IntKind.i64.wrap ((x7.Kids.length : Int) + (x8.Kids.length : Int)) = 0))) else some false) fun v6 =>
      bif v6 then (
       Option.bind (some ([] : List Node)) fun l9 => Option.bind (appG l9 (tabE t).Nodes) fun l10 => Option.bind (idxG (tabE t).Nodes (j : Int)) fun x11 => Option.bind (rixG l10 (i : Int)) fun i12 => Option.bind (updG l10 i12 fun _ => x11) fun l14 =>
       Option.bind (idxG (tabE t).Nodes (i : Int)) fun x15 => Option.bind (rixG l14 (j : Int)) fun ix16 => Option.bind (updG l14 ix16 fun _ => x15) fun l18 => Option.bind (some [(Table.mk l18 (tabE t).Leaves)]) fun l19 => Option.bind (appG ([] : List Table) l19) fun list20 => some list20) else some []) = some l5 := by
    by_cases hij : i = j
    ·exact ⟨[], by simp, by simp, by rw [decide_eq_true (show (i : Int) = j by omega)]; rfl⟩
    ·have hw : IntKind.i64.wrap ((((t.nd i).kids.length : Nat) : Int) + (((t.nd j).kids.length : Nat) : Int)) = (((t.nd i).kids.length + (t.nd j).kids.length : Nat) : Int) := by
      have := bi.kids; have := bj.kids
      rw [wr64 (by omega) (by omega)]; omega
     rw [decide_eq_false (show ¬ (i : Int) = j by omega), Bool.not_false, cond_true, gi, Option.bind_some, gj, Option.bind_some, ki, kj, hw, Option.bind_some]
     by_cases h0 : (t.nd i).kids.length + (t.nd j).kids.length = 0
     ·have ki0 : (t.nd i).kids = [] := List.eq_nil_of_length_eq_zero (by omega)
      have kj0 : (t.nd j).kids = [] := List.eq_nil_of_length_eq_zero (by omega)
      have u1 : updG (tabE t).Nodes i (fun _ => encN (t.nd j)) = some ((tabE t).Nodes.set i (encN (t.nd j))) := by unfold updG; rw [List.getElem?_eq_getElem (by rw [hnl]; exact hi)]
      have u2 : updG ((tabE t).Nodes.set i (encN (t.nd j))) j (fun _ => encN (t.nd i)) = some (((tabE t).Nodes.set i (encN (t.nd j))).set j (encN (t.nd i))) := by unfold updG; rw [List.getElem?_eq_getElem (by rw [List.length_set, hnl]; exact hj)]
      have e1 : Table.mk (((tabE t).Nodes.set i (encN (t.nd j))).set j (encN (t.nd i))) (tabE t).Leaves = tabE ⟨(t.ns.set i (t.nd j)).set j (t.nd i), t.ls⟩ := by simp [tabE, List.map_set]
      refine ⟨[tabE ⟨(t.ns.set i (t.nd j)).set j (t.nd i), t.ls⟩], by simp, fun T hT => ?_, ?_⟩
      ·simp only [List.mem_singleton] at hT
       subst hT
       refine bad_of (fun n hn => ?_) (by show t.ls.length ≤ _; omega) (no_swap c hi hj hij ki0 kj0) f
       rcases List.mem_or_eq_of_mem_set hn with hn | rfl
       ·rcases List.mem_or_eq_of_mem_set hn with hn | rfl
        ·exact hbd _ hn
        ·exact bj
       ·exact bi
      ·rw [decide_eq_true (by omega), cond_true]
       simp only [Option.bind_some, app0, ri _ hnl, u1, rj _ (show ((tabE t).Nodes.set i (encN (t.nd j))).length = t.ns.length by rw [List.length_set, hnl]), u2, e1]
       rfl
     ·exact ⟨[], by simp, by simp, by rw [decide_eq_false (by omega)]; rfl⟩
   obtain ⟨l5, l5n, l5b, e5⟩ := s1
   have B2 : Bad f (Table.mk ((t.ns ++ [t.nd 0]).map encN) (tabE t).Leaves) := bad_of (t := ⟨t.ns ++ [t.nd 0], t.ls⟩) (fun n hn => by
    rcases List.mem_append.1 hn with hn | hn
    ·exact hbd _ hn
    ·simp only [List.mem_singleton] at hn; subst hn; exact hbd _ (ns_mem hpos)) (by show t.ls.length ≤ _; omega) (no_twice c) f
   have B3 : ∀ d, Bad f (Table.mk (tabE t).Nodes (t.ls ++ [d])) := fun d => bad_of (t := ⟨t.ns, t.ls ++ [d]⟩) hbd (by show (t.ls ++ [d]).length ≤ _; simp; omega) (no_more c d) f
   have app4 : ∀ l : List Table, l.length ≤ 2 → appG l5 l = some (l5 ++ l) := fun l h => appG_some (by omega)
   have step : ∀ T, Option.bind (appG (l5 ++ [Table.mk ((t.ns ++ [t.nd 0]).map encN) (tabE t).Leaves, Table.mk (tabE t).Nodes (t.ls ++ [Decision.mk false false false 0 (-1) (Ratio.mk 0 0) (Ratio.mk 0 0) (Ratio.mk 0 0) (Ratio.mk 0 0) (Ratio.mk 0 0) 0])]) [T]) (fun l : List Table => some l) = some (l5 ++ [Table.mk ((t.ns ++ [t.nd 0]).map encN) (tabE t).Leaves, Table.mk (tabE t).Nodes (t.ls ++ [Decision.mk false false false 0 (-1) (Ratio.mk 0 0) (Ratio.mk 0 0) (Ratio.mk 0 0) (Ratio.mk 0 0) (Ratio.mk 0 0) 0])] ++ [T]) := fun T => by
    rw [appG_some (by simp; omega)]; rfl
   have all2 : ∀ T ∈ l5 ++ [Table.mk ((t.ns ++ [t.nd 0]).map encN) (tabE t).Leaves, Table.mk (tabE t).Nodes (t.ls ++ [Decision.mk false false false 0 (-1) (Ratio.mk 0 0) (Ratio.mk 0 0) (Ratio.mk 0 0) (Ratio.mk 0 0) (Ratio.mk 0 0) 0])], Bad f T := fun T hT => by
    rcases List.mem_append.1 hT with hT | hT
    ·exact l5b T hT
    ·simp only [List.mem_cons, List.not_mem_nil, or_false] at hT
     rcases hT with rfl | rfl
     ·exact B2
     ·exact B3 _
   simp only [io_rem, io_wrap, io_len, hnl, hll, ei, ej, io_eqi, io_add, decide_true, Bool.not_true, cond_false, decide_eq_false z1, decide_eq_false z2, Option.bind_some, hdiv]
   simp only [Option.bind_some] at e5
   rw [e5]
   simp only [Option.bind_some, app0, g0, app1, app2, app3, app4 _ (show [Table.mk ((t.ns ++ [t.nd 0]).map encN) (tabE t).Leaves, Table.mk (tabE t).Nodes (t.ls ++ [Decision.mk false false false 0 (-1) (Ratio.mk 0 0) (Ratio.mk 0 0) (Ratio.mk 0 0) (Ratio.mk 0 0) (Ratio.mk 0 0) 0])].length ≤ 2 by simp), gi, io_lt, ki]
   by_cases h1 : 1 < (t.nd i).kids.length
   ·obtain ⟨k0, k1, K, hk⟩ : ∃ k0 k1 K, (t.nd i).kids = k0 :: k1 :: K := by
     cases hk : (t.nd i).kids with
     | nil => rw [hk] at h1; simp at h1
     | cons k0 l => cases l with
      | nil => rw [hk] at h1; simp at h1
      | cons k1 K => exact ⟨k0, k1, K, rfl⟩
    have B4 : Bad f (tabE ⟨t.ns.set i ⟨(t.nd i).attr, (t.nd i).cuts, k0 :: k0 :: K, (t.nd i).leaf⟩, t.ls⟩) := bad_of (fun n hn => by
     rcases List.mem_or_eq_of_mem_set hn with hn | rfl
     ·exact hbd _ hn
     ·refine ⟨bi.cuts, by have := bi.kids; rw [hk] at this; simpa using this, bi.cv, fun k hkm => bi.kv k ?_, bi.av, bi.lv⟩
      rw [hk]
      simp only [List.mem_cons] at hkm ⊢
      rcases hkm with rfl | rfl | hkm
      ·exact .inl rfl
      ·exact .inl rfl
      ·exact .inr (.inr hkm)) (by show t.ls.length ≤ _; omega) (no_kid c hi hk) f
    have hek : (encN (t.nd i)).Kids = (k0 : Int) :: (k1 : Int) :: ints K := by simp [encN, hk, ints]
    have ak : appG ([] : List Int) (encN (t.nd i)).Kids = some ((k0 : Int) :: (k1 : Int) :: ints K) := by
     rw [appG_some (by rw [hek]; have := bi.kids; rw [hk] at this; simp [ints_len] at this ⊢; omega), hek]; rfl
    have r0 : rixG ((k0 : Int) :: (k1 : Int) :: ints K) 0 = some 0 := by unfold rixG; rw [if_pos (⟨by omega, by rw [List.length_cons, List.length_cons]; omega⟩)]; rfl
    have r1 : rixG ((k0 : Int) :: (k1 : Int) :: ints K) 1 = some 1 := by unfold rixG; rw [if_pos (⟨by omega, by rw [List.length_cons, List.length_cons]; omega⟩)]; rfl
    have x0 : ((k0 : Int) :: (k1 : Int) :: ints K)[0]? = some (k0 : Int) := rfl
    have u0 : updG ((k0 : Int) :: (k1 : Int) :: ints K) 1 (fun _ => (k0 : Int)) = some ((k0 : Int) :: (k0 : Int) :: ints K) := rfl
    have un : updG (tabE t).Nodes i (fun y44 => Node.mk y44.Attr y44.Cuts ((k0 : Int) :: (k0 : Int) :: ints K) y44.Leaf) = some ((tabE t).Nodes.set i (Node.mk (t.nd i).attr (t.nd i).cuts ((k0 : Int) :: (k0 : Int) :: ints K) (t.nd i).leaf)) := by
     unfold updG; rw [show (tabE t).Nodes[i]? = some (encN (t.nd i)) from encs_get hi]; rfl
    have e4 : Table.mk ((tabE t).Nodes.set i (Node.mk (t.nd i).attr (t.nd i).cuts ((k0 : Int) :: (k0 : Int) :: ints K) (t.nd i).leaf)) (tabE t).Leaves = tabE ⟨t.ns.set i ⟨(t.nd i).attr, (t.nd i).cuts, k0 :: k0 :: K, (t.nd i).leaf⟩, t.ls⟩ := by
     simp [tabE, List.map_set, encN, ints]
    simp only [decide_eq_true (show (1 : Int) < (((t.nd i).kids.length : Nat) : Int) by omega), cond_true, ak, r0, r1, x0, u0, app0, ri _ hnl, un, e4, Option.bind_some]
    rw [step, Option.bind_some, others_loop f _ (by simp; omega) (fun T hT => by
     rcases List.mem_append.1 hT with hT | hT
     ·exact all2 T hT
     ·simp only [List.mem_singleton] at hT; subst hT; exact B4)]
    rfl
   ·simp only [decide_eq_false (show ¬ (1 : Int) < (((t.nd i).kids.length : Nat) : Int) by omega), cond_false, Option.bind_some]
    rw [others_loop f _ (by simp; omega) all2]
    rfl
end Go.SX.Td
