/- Parts of the proof. -/
import Derived.Test.YtllbabjgpdmblaaDoorZTdP5
import Derived.Test.YtllbabjgpdmblaaDoorZTd24d
import Derived.Test.YtllbabjgpdmblaaDoorZTd32d
import Derived.Test.YtllbabjgpdmblaaDoorZTdBuilder
import Derived.Test.YtllbabjgpdmblaaDoorZTd20d
set_option linter.unusedSimpArgs false
set_option linter.unusedVariables false
set_option linter.unusedSectionVars false
namespace Go.SX.Td
open Go Go.SX Tb
theorem setAll : ∀ (m n : Nat), m ≤ n → (List.range m).foldl (fun (s : List Int) (k : Nat) => s.set k (k : Int)) (List.replicate n 0) = ints (List.range m) ++ List.replicate (n - m) 0
 | 0, n, _ => by simp [ints]
 | m + 1, n, h => by
  rw [List.range_succ, List.foldl_append, setAll m n (by omega)]
  simp only [List.foldl_cons, List.foldl_nil]
  rw [List.set_append_right _ _ (by rw [ints_len, List.length_range]; omega), ints_len, List.length_range, Nat.sub_self]
  obtain ⟨k, hk⟩ : ∃ k, n - m = k + 1 := ⟨n - m - 1, by omega⟩
  rw [hk, List.replicate_succ, List.set_cons_zero]
  have : n - (m + 1) = k := by omega
  rw [this]
  simp [ints]
variable {t : Tab Decision}
end Go.SX.Td
namespace Go.SX.Td
open Go Go.SX Tb
def tabE (t : Tab Decision) : Table := ⟨t.ns.map encN, t.ls⟩
def A0 : A10 Int := ⟨0, 0, 0, 0, 0, 0, 0, 0, 0, 0⟩
theorem all_live (p : Policy) (f : Fa) : List.range (probOf p).nz = (List.range (probOf p).nz).filter ((probOf p).Pre 0 f) := by
 symm
 rw [List.filter_eq_self]
 intro z _
 simp [Prob.Pre]
theorem PG_of {p : Policy} (hv : validB p = true) (hnz : (zonesOf p).length ≤ 1000) (hbnd : ∀ b, InvP p b → b.tab.ns.length ≤ 20000 ∧ b.tab.ls.length ≤ 20000) : PG p := by
 have h1 : p.Rules.length ≤ 200 := by
  simp only [validB, Bool.and_eq_true, decide_eq_true_eq] at hv; exact hv.1
 have h2 : ∀ r ∈ p.Rules, r.Zones.length ≤ 200 ∧ r.Zones.all withinZ = true := fun r hr => by
  obtain ⟨k, hk⟩ := List.getElem?_of_mem hr
  have := valid_all hv hk
  simp only [fineAt, Bool.and_eq_true, decide_eq_true_eq] at this
  exact ⟨this.2.1, this.2.2.1⟩
 refine ⟨by omega, fun r hr => by have := (h2 r hr).1; omega, fun z hz j hj => ?_, hnz, hbnd⟩
 obtain ⟨r, hr, hzr⟩ := List.mem_flatMap.1 hz
 have := List.all_eq_true.1 (h2 r hr).2 z hzr
 exact withinZ_iff.1 this j hj
theorem PG_few {p : Policy} (hv : validB p = true) (hnz : (zonesOf p).length ≤ 10) : PG p := by
 refine PG_of hv (by omega) fun b hb => ?_
 obtain ⟨h1, h2⟩ := hb.few
 have e : (probOf p).nz = (zonesOf p).length := rfl
 rw [e] at h1 h2
 have : 2 ^ (zonesOf p).length ≤ 2 ^ 10 := Nat.pow_le_pow_right (by omega) hnz
 omega
end Go.SX.Td
namespace Go.SX.Td
open Go Go.SX Tb
structure Bd (n : Nd) : Prop where
 cuts : n.cuts.length ≤ 100000
 kids : n.kids.length ≤ 100000
 cv : ∀ c ∈ n.cuts, -1000000000000 ≤ c ∧ c ≤ 1000000000000
 kv : ∀ k ∈ n.kids, k ≤ 1000000000000
 av : n.attr ≤ 1000000000000
 lv : n.leaf ≤ 1000000000000
theorem cuts_loop (n : Nd) (lo hi : Int) (hn : n.cuts.length ≤ 100000) : ∃ b, whileG (table_formed_l2 (encN n) hi) (lo, 0) = some (if b = true then .inl () else .inr false) ∧ (b = true ↔ Asc lo hi n.cuts) := by
 obtain ⟨r, h1, b, rfl, h2⟩ := loop_up (step := table_formed_l2 (encN n) hi) (fun (s : Int) i => (s, i)) n.cuts.length
  (fun k s => (Asc lo hi n.cuts ↔ Asc s hi (n.cuts.drop k))) (fun r => ∃ b : Bool, r = (if b = true then .inl () else .inr false) ∧ (b = true ↔ Asc lo hi n.cuts)) (fun k s hk hI => by
  have hx : n.cuts[k]? = some n.cuts[k] := by simp [hk]
  rw [List.drop_eq_getElem_cons hk] at hI
  generalize n.cuts[k] = x at hx hI
  have hlt : (k : Int) < (encN n).Cuts.length := by simp [encN]; omega
  have hx' : (encN n).Cuts[k]? = some x := hx
  simp only [table_formed_l2, io_lt, io_len, hlt, decide_true, cond_true, idxG_some hx', Option.bind_some, io_le, io_add, wr_up (k := k) (by omega)]
  by_cases ha : x ≤ s
  ·refine .inr ⟨.inr false, by simp [ha], false, rfl, ?_⟩
   rw [hI]
   simp only [Asc]
   constructor
   ·intro h; cases h
   ·rintro ⟨h, _⟩; omega
  ·by_cases hb : hi < x
   ·refine .inr ⟨.inr false, by simp [ha, hb], false, rfl, ?_⟩
    rw [hI]
    simp only [Asc]
    constructor
    ·intro h; cases h
    ·rintro ⟨_, h, _⟩; omega
   ·refine .inl ⟨x, by simp [ha, hb], ?_⟩
    rw [hI]
    simp only [Asc]
    exact ⟨fun h => h.2.2, fun h => ⟨by omega, by omega, h⟩⟩) (fun s hI => by
  have hlt : ¬ ((n.cuts.length : Int) < (encN n).Cuts.length) := by simp [encN]
  refine ⟨.inl (), by simp only [table_formed_l2, io_lt, io_len, hlt, decide_false, cond_false], true, rfl, ?_⟩
  rw [hI]; simp [Asc]) lo (by simp)
 exact ⟨b, h1, h2⟩
theorem adj_iff {S : Type} : ∀ {l : List S}, Adj l ↔ ∀ j a b, l[j]? = some a → l[j + 1]? = some b → a ≠ b
 | [] => by simp [Adj]
 | [x] => by
  simp only [Adj, true_iff]
  intro j a b _ h
  cases j <;> simp at h
 | x :: y :: l => by
  simp only [Adj, adj_iff (l := y :: l)]
  constructor
  ·rintro ⟨h1, h2⟩ j a b ha hb
   cases j with
   | zero => simp at ha hb; subst ha; subst hb; exact h1
   | succ j => exact h2 j a b (by simpa using ha) (by simpa using hb)
  ·intro h
   exact ⟨h 0 x y rfl rfl, fun j a b ha hb => h (j + 1) a b (by simpa using ha) (by simpa using hb)⟩
open Classical in
noncomputable def kidOk (t : Tab Decision) (n : Nd) (j : Nat) : Bool := match n.kids[j]? with
 | none => false
 | some x => decide (x < t.ns.length ∧ (0 < j → n.kids[j - 1]? ≠ some x) ∧ ((t.nd x).kids ≠ [] → n.attr < (t.nd x).attr))
theorem kids_loop' (t : Tab Decision) (n : Nd) (hn : n.kids.length ≤ 100000) (hN : t.ns.length ≤ 1000000) : whileG (table_formed_l4 (encN n) (tabE t)) 0 = some (if (List.range n.kids.length).any (fun j => !kidOk t n j) then .inr false else .inl ()) := by
 refine loop_all (step := table_formed_l4 (encN n) (tabE t)) n.kids.length (fun j => !kidOk t n j) (.inr false) (.inl ()) (fun k hk => ?_) ?_
 ·have hx : n.kids[k]? = some n.kids[k] := by simp [hk]
  generalize n.kids[k] = x at hx
  have hx' : (encN n).Kids[k]? = some (x : Int) := ints_get hx
  have hlt : (k : Int) < (encN n).Kids.length := by simp [encN, ints_len]; omega
  have hx0 : ¬ ((x : Int) < 0) := by omega
  have hnl : (tabE t).Nodes.length = t.ns.length := by simp [tabE]
  have hna : (encN n).Attr = (n.attr : Int) := rfl
  simp only [table_formed_l4, io_lt, io_len, hlt, decide_true, cond_true, idxG_some hx', Option.bind_some, io_le, io_add, wr_up (k := k) (by omega), hx0, decide_false, cond_false, hnl, kidOk, hx]
  by_cases h1 : t.ns.length ≤ x
  ·have : ((t.ns.length : Nat) : Int) ≤ (x : Int) := by omega
   simp [this, Nat.not_lt.2 h1]
  ·have h1' : ¬ ((t.ns.length : Nat) : Int) ≤ (x : Int) := by omega
   have hxn : x < t.ns.length := by omega
   have hg : idxG (tabE t).Nodes (x : Int) = some (encN (t.nd x)) := idxG_some (encs_get hxn)
   have hkl : ((encN (t.nd x)).Kids.length : Int) = ((t.nd x).kids.length : Nat) := by simp [encN, ints_len]
   have htail : (bif decide (0 < (((encN (t.nd x)).Kids.length : Nat) : Int)) then some (decide ((encN (t.nd x)).Attr ≤ (encN n).Attr)) else some false) = some (!decide ((t.nd x).kids ≠ [] → n.attr < (t.nd x).attr)) := by
    rw [hkl]
    by_cases h3 : (t.nd x).kids = []
    ·simp [h3]
    ·have h4 : (0 : Int) < ((t.nd x).kids.length : Nat) := by
      have : (t.nd x).kids.length ≠ 0 := by simpa using h3
      omega
     rw [decide_eq_true h4, cond_true]
     congr 1
     rw [Bool.eq_iff_iff]
     have e : (encN (t.nd x)).Attr = ((t.nd x).attr : Int) := rfl
     simp only [Bool.not_eq_true', decide_eq_true_eq, decide_eq_false_iff_not, hna, e]
     constructor
     ·intro h h5; have := h5 h3; omega
     ·intro h
      by_cases h6 : (t.nd x).attr ≤ n.attr
      ·omega
      ·exact absurd (fun _ => by omega) h
   by_cases h2 : k = 0
   ·subst h2
    simp only [h1', decide_false, cond_false, hg, Int.natCast_zero, Int.lt_irrefl, htail, Option.bind_some, hxn]
    by_cases h5 : (t.nd x).kids ≠ [] → n.attr < (t.nd x).attr
    ·by_cases h6 : (t.nd x).kids = []
     ·simp [h6]
     ·have h7 := h5 h6
      have h8 : ¬ (t.nd x).attr ≤ n.attr := by omega
      simp [h6, h7, h8]
    ·simp [h5]
   ·have h2' : (0 : Int) < (k : Int) := by omega
    have hy : ∃ y, n.kids[k - 1]? = some y := ⟨n.kids[k - 1]'(by omega), by rw [List.getElem?_eq_getElem]⟩
    obtain ⟨y, hy⟩ := hy
    have hp : io.ar .sub .i64 (k : Int) 1 = ((k - 1 : Nat) : Int) := by rw [io_subi, wr64 (by omega) (by omega)]; omega
    have hy' : (encN n).Kids[k - 1]? = some (y : Int) := ints_get hy
    simp only [h1', decide_false, cond_false, h2', decide_true, cond_true, hp, idxG_some hy', Option.bind_some, io_eqi, hy]
    by_cases h3 : y = x
    ·subst h3
     simp [Nat.pos_of_ne_zero h2]
    ·have h3' : ¬ ((y : Int) = (x : Int)) := by omega
     simp only [h3', decide_false, cond_false, hg, htail, Option.bind_some, hxn, Option.some.injEq, h3, true_and, not_false_eq_true, ne_eq, implies_true]
     by_cases h5 : ¬ ((t.nd x).kids = []) → n.attr < (t.nd x).attr
     ·by_cases h6 : (t.nd x).kids = []
      ·simp [h6]
      ·have h7 := h5 h6
       have h8 : ¬ (t.nd x).attr ≤ n.attr := by omega
       simp [h6, h7, h8]
     ·simp [h5]
 ·have hlt : ¬ ((n.kids.length : Int) < (encN n).Kids.length) := by simp [encN, ints_len]
  simp only [table_formed_l4, io_lt, io_len, hlt, decide_false, cond_false]
theorem kids_iff {t : Tab Decision} {n : Nd} (ha : n.attr < 10) : ((List.range n.kids.length).any fun j => !kidOk t n j) = false ↔ (∀ k ∈ n.kids, k < t.ns.length ∧ n.attr < lev (t.nd k)) ∧ Adj n.kids := by
 rw [List.any_eq_false]
 simp only [List.mem_range, Bool.not_eq_true', Bool.not_eq_false]
 have hl : ∀ x, ((t.nd x).kids ≠ [] → n.attr < (t.nd x).attr) ↔ n.attr < lev (t.nd x) := fun x => by
  unfold lev
  split
  ·rename_i h; simp [h]; omega
  ·rename_i h; simp [h]
 constructor
 ·intro h
  have h' : ∀ j x, n.kids[j]? = some x → x < t.ns.length ∧ (0 < j → n.kids[j - 1]? ≠ some x) ∧ n.attr < lev (t.nd x) := fun j x hx => by
   have := h j (List.getElem?_eq_some_iff.1 hx).1
   simp only [kidOk, hx, decide_eq_true_eq] at this
   exact ⟨this.1, this.2.1, (hl x).1 this.2.2⟩
  refine ⟨fun k hk => ?_, adj_iff.2 fun j a b ha hb e => ?_⟩
  ·obtain ⟨j, hj⟩ := List.getElem?_of_mem hk
   exact ⟨(h' j k hj).1, (h' j k hj).2.2⟩
  ·subst e; exact (h' (j + 1) a hb).2.1 (by omega) ha
 ·rintro ⟨h1, h2⟩ j hj
  have hx : n.kids[j]? = some n.kids[j] := by simp [hj]
  have := h1 n.kids[j] (List.getElem_mem _)
  generalize n.kids[j] = x at hx this
  simp only [kidOk, hx, decide_eq_true_eq]
  refine ⟨this.1, fun h0 e => ?_, (hl x).2 this.2⟩
  exact adj_iff.1 h2 (j - 1) x x e (by rw [show j - 1 + 1 = j by omega]; exact hx) rfl
theorem formed_eq (t : Tab Decision) {n : Nd} (hb : Bd n) (hN : t.ns.length ≤ 1000000) : ∃ b, table_formed_g (tabE t) (encN n) = some b ∧ (b = true ↔ Fine limL t.ns.length t.ls.length t.nd n) := by
 have hkl : ((encN n).Kids.length : Int) = (n.kids.length : Nat) := by simp [encN, ints_len]
 have hcl : ((encN n).Cuts.length : Int) = (n.cuts.length : Nat) := by simp [encN]
 have hal : (encN n).Attr = (n.attr : Int) := rfl
 have hll : (encN n).Leaf = (n.leaf : Int) := rfl
 have hls : (tabE t).Leaves.length = t.ls.length := rfl
 unfold table_formed_g
 simp only [io_eqi, io_len, hkl, hcl, hal, hll, io_le, io_lt, hls, io_not]
 by_cases hk : n.kids = []
 ·have h0 : ((n.kids.length : Nat) : Int) = 0 := by rw [hk]; rfl
  rw [decide_eq_true h0, cond_true]
  refine ⟨decide (n.cuts = [] ∧ n.attr = 0 ∧ n.leaf < t.ls.length), ?_, ?_⟩
  ·by_cases h1 : n.cuts = []
   ·have h1' : ((n.cuts.length : Nat) : Int) = 0 := by rw [h1]; rfl
    rw [decide_eq_true h1', cond_true]
    by_cases h2 : n.attr = 0
    ·have h2' : (n.attr : Int) = 0 := by omega
     have h3 : (0 : Int) ≤ (n.leaf : Int) := by omega
     rw [decide_eq_true h2', cond_true, decide_eq_true h3, cond_true]
     simp [h1, h2]
    ·have h2' : ¬ (n.attr : Int) = 0 := by omega
     rw [decide_eq_false h2', cond_false]
     simp [h2]
   ·have h1' : ¬ ((n.cuts.length : Nat) : Int) = 0 := by
     have : n.cuts.length ≠ 0 := by simpa using h1
     omega
    rw [decide_eq_false h1', cond_false]
    simp [h1]
  ·rw [decide_eq_true_eq]
   exact ⟨fun h => ⟨fun _ => h, fun h' => absurd hk h', by rw [hk]; simp, by rw [hk]; trivial⟩, fun h => h.leaf hk⟩
 ·have h0 : ¬ ((n.kids.length : Nat) : Int) = 0 := by
   have : n.kids.length ≠ 0 := by simpa using hk
   omega
  have hA : io.ar .add .i64 ((n.cuts.length : Nat) : Int) 1 = ((n.cuts.length + 1 : Nat) : Int) := by
   rw [io_add, wr_up]; have := hb.cuts; omega
  rw [decide_eq_false h0, cond_false, hA]
  have hneg : ¬ ((n.attr : Int) < 0) := by omega
  rw [decide_eq_false hneg, cond_false]
  have first : (bif decide ((10 : Int) ≤ (n.attr : Int)) then some true else bif !decide ((n.leaf : Int) = 0) then some true else bif decide (((n.cuts.length : Nat) : Int) = 0) then some true else some (!decide (((n.kids.length : Nat) : Int) = ((n.cuts.length + 1 : Nat) : Int)))) = some (!decide (n.attr < 10 ∧ n.leaf = 0 ∧ n.kids.length = n.cuts.length + 1 ∧ n.cuts ≠ [])) := by
   by_cases h1 : n.attr < 10
   ·have h1' : ¬ (10 : Int) ≤ (n.attr : Int) := by omega
    rw [decide_eq_false h1', cond_false]
    by_cases h2 : n.leaf = 0
    ·have h2' : (n.leaf : Int) = 0 := by omega
     rw [decide_eq_true h2', Bool.not_true, cond_false]
     by_cases h3 : n.cuts = []
     ·have h3' : ((n.cuts.length : Nat) : Int) = 0 := by rw [h3]; rfl
      rw [decide_eq_true h3', cond_true]; simp [h3]
     ·have h3' : ¬ ((n.cuts.length : Nat) : Int) = 0 := by
       have : n.cuts.length ≠ 0 := by simpa using h3
       omega
      rw [decide_eq_false h3', cond_false]
      by_cases h4 : n.kids.length = n.cuts.length + 1
      ·simp [h1, h2, h3, h4]
      ·have h4' : ¬ ((n.kids.length : Nat) : Int) = ((n.cuts.length + 1 : Nat) : Int) := by omega
       rw [decide_eq_false h4']; simp [h4]
    ·have h2' : ¬ (n.leaf : Int) = 0 := by omega
     rw [decide_eq_false h2', Bool.not_false, cond_true]; simp [h2]
   ·have h1' : (10 : Int) ≤ (n.attr : Int) := by omega
    rw [decide_eq_true h1', cond_true]; simp [h1]
  rw [first, Option.bind_some]
  by_cases hf : n.attr < 10 ∧ n.leaf = 0 ∧ n.kids.length = n.cuts.length + 1 ∧ n.cuts ≠ []
  ·rw [decide_eq_true hf, Bool.not_true, cond_false]
   obtain ⟨f1, f2, f3, f4⟩ := hf
   obtain ⟨b, l1, l2⟩ := cuts_loop n (limL.lo n.attr) (limL.hi n.attr) hb.cuts
   simp only [Limits_eq, Option.bind_some, pixG_some f1]
   have l1' : whileG (table_formed_l2 (encN n) ((limZ.get n.attr).Hi)) ((limZ.get n.attr).Lo, 0) = _ := l1
   rw [l1', kids_loop' t n hb.kids hN]
   cases b with
   | false =>
    refine ⟨false, rfl, ⟨fun h => (by cases h), fun h => ?_⟩⟩
    exact l2.2 (h.inner hk).2.2.2.2
   | true =>
    have hki := kids_iff (t := t) f1
    cases hany : (List.range n.kids.length).any fun j => !kidOk t n j with
    | true =>
     refine ⟨false, rfl, ⟨fun h => (by cases h), fun h => ?_⟩⟩
     have := hki.2 ⟨h.kid, h.adj⟩
     rw [this] at hany; cases hany
    | false =>
     refine ⟨true, rfl, ⟨fun _ => ?_, fun _ => rfl⟩⟩
     obtain ⟨k1, k2⟩ := hki.1 hany
     exact ⟨fun h => absurd h hk, fun _ => ⟨f1, f2, f3, f4, l2.1 rfl⟩, k1, k2⟩
  ·rw [decide_eq_false hf, Bool.not_false, cond_true]
   refine ⟨false, rfl, ⟨fun h => (by cases h), fun h => ?_⟩⟩
   obtain ⟨g1, g2, g3, g4, -⟩ := h.inner hk
   exact absurd ⟨g1, g2, g3, g4⟩ hf
end Go.SX.Td
namespace Go.SX.Td
open Go Go.SX Tb
def cnt (o : List Nat) : Nat := o.foldl (fun c x => if x = c then c + 1 else c) 0
theorem cnt_snoc (o : List Nat) (x : Nat) : cnt (o ++ [x]) = if x = cnt o then cnt o + 1 else cnt o := by unfold cnt; rw [List.foldl_append]; rfl
theorem cnt_fold : ∀ (o : List Nat) (c : Nat), c ≤ o.foldl (fun c x => if x = c then c + 1 else c) c ∧ o.foldl (fun c x => if x = c then c + 1 else c) c ≤ c + o.length ∧ (o.foldl (fun c x => if x = c then c + 1 else c) c = c + o.length → o = (List.range o.length).map (c + ·))
 | [], c => by simp
 | x :: o, c => by
  rw [List.foldl_cons]
  by_cases h : x = c
  ·rw [if_pos h]
   obtain ⟨h1, h2, h3⟩ := cnt_fold o (c + 1)
   refine ⟨by omega, by rw [List.length_cons]; omega, fun e => ?_⟩
   have := h3 (by rw [List.length_cons] at e; omega)
   rw [List.length_cons, List.range_succ_eq_map, List.map_cons, List.map_map, h]
   congr 1
   conv => lhs; rw [this]
   refine List.map_congr_left fun a _ => ?_
   simp only [Function.comp]; omega
  ·rw [if_neg h]
   obtain ⟨h1, h2, h3⟩ := cnt_fold o c
   refine ⟨h1, by rw [List.length_cons]; omega, fun e => ?_⟩
   rw [List.length_cons] at e; omega
theorem cnt_le (o : List Nat) : cnt o ≤ o.length := by have := (cnt_fold o 0).2.1; unfold cnt; omega
theorem cnt_all {o : List Nat} (h : cnt o = o.length) : o = List.range o.length := by
 have := (cnt_fold o 0).2.2 (by unfold cnt at h; omega)
 rw [this]; simp
theorem cnt_range : ∀ n, cnt (List.range n) = n
 | 0 => rfl
 | n + 1 => by rw [List.range_succ, cnt_snoc, cnt_range n, if_pos rfl]
theorem walkV_eq {t : Tab Decision} (hkl : ∀ x, x < t.ns.length → ∀ k ∈ (t.nd x).kids, k < t.ns.length ∧ lev (t.nd x) < lev (t.nd k)) (hlv : ∀ x, x < t.ns.length → lev (t.nd x) ≤ 10) (hb : ∀ n ∈ t.ns, Bd n) (hN : t.ns.length ≤ 20000) : ∀ (n x : Nat) (o : List Nat), x < t.ns.length → 10 < n + lev (t.nd x) → o.Nodup → (∀ y ∈ o, y < t.ns.length) →
  walkV (t.ns.map encN) n (x : Int) (seenE o) (cnt o : Int) = some (seenE (walk (kidsOf t) n x o), (cnt (walk (kidsOf t) n x o) : Int))
 | 0, x, o, hx, hl, _, _ => by have := hlv x hx; omega
 | n + 1, x, o, hx, hl, ho, hbo => by
  show walkV_b _ (walkV (t.ns.map encN) n) _ _ _ = _
  by_cases hm : x ∈ o
  ·simp only [walkV_b, Option.bind_some, look_seenD, hm, decide_true, cond_true, walk, if_true]
  ·have hnod : (o ++ [x]).Nodup := by
    rw [List.nodup_append]
    exact ⟨ho, by simp, fun a ha b hb e => hm (by simp at hb; rw [← hb, ← e]; exact ha)⟩
   have hlt' : ∀ y ∈ o ++ [x], y < t.ns.length := fun y hy => by
    rcases List.mem_append.1 hy with hy | hy
    ·exact hbo y hy
    ·simp at hy; omega
   have hlen : o.length < t.ns.length := by
    have := len_lt hnod hlt'
    simp at this; omega
   have hcl := cnt_le o
   have hc : (bif io.eq (x : Int) (cnt o : Int) then some (io.ar .add .i64 (cnt o : Int) 1) else some (cnt o : Int)) = some ((cnt (o ++ [x]) : Nat) : Int) := by
    rw [cnt_snoc, io_eqi, io_add, wr_up (by omega)]
    by_cases h : x = cnt o
    ·rw [if_pos h, decide_eq_true (by omega), cond_true]
    ·rw [if_neg h, decide_eq_false (by omega), cond_false]
   have hgx : idxG (t.ns.map encN) (x : Int) = some (encN (t.nd x)) := idxG_some (encs_get hx)
   simp only [walkV_b, Option.bind_some, look_seenD, hm, decide_false, cond_false, put_seen hm, hc, hgx, walk, if_false]
   have hgood : ∀ k, k ≤ (t.nd x).kids.length → (((t.nd x).kids.take k).foldl (fun o k => walk (kidsOf t) n k o) (o ++ [x])).Nodup ∧ ∀ y ∈ ((t.nd x).kids.take k).foldl (fun o k => walk (kidsOf t) n k o) (o ++ [x]), y < t.ns.length := by
    intro k
    induction k with
    | zero => intro _; simp only [List.take_zero, List.foldl_nil]; exact ⟨hnod, hlt'⟩
    | succ k ih =>
     intro hk
     obtain ⟨i1, i2⟩ := ih (by omega)
     have hg : (t.nd x).kids[k]? = some (t.nd x).kids[k] := by simp
     rw [List.take_add_one, hg, Option.toList_some, List.foldl_append]
     simp only [List.foldl_cons, List.foldl_nil]
     obtain ⟨k1, k2⟩ := hkl x hx _ (List.mem_of_getElem? hg)
     obtain ⟨w1, -⟩ := walk_ok (kids := kidsOf t) (lv := fun x => lev (t.nd x)) (N := t.ns.length) hkl n _ (((t.nd x).kids.take k).foldl (fun o k => walk (kidsOf t) n k o) (o ++ [x])) k1 (by omega) (hlv _ k1) hlv
     exact ⟨w1.nod i1, fun y hy => (w1.lt y hy).elim (i2 y) id⟩
   have hmem : t.nd x ∈ t.ns := by unfold Tab.nd; rw [List.getD_eq_getElem?_getD, List.getElem?_eq_getElem hx]; exact List.getElem_mem _
   refine loop_fold (step := walkV_l1 (encN (t.nd x)) (walkV (t.ns.map encN) n)) (fun (s : List Nat) i => (seenE s, (cnt s : Int), i)) (t.nd x).kids (fun o k => walk (kidsOf t) n k o) (o ++ [x]) _ (fun k y hy => ?_) ?_
   ·have hk : k < (t.nd x).kids.length := (List.getElem?_eq_some_iff.1 hy).1
    obtain ⟨g1, g2⟩ := hgood k (by omega)
    obtain ⟨k1, k2⟩ := hkl x hx y (List.mem_of_getElem? hy)
    have hlt : (k : Int) < (ints (t.nd x).kids).length := by rw [ints_len]; omega
    have e := walkV_eq hkl hlv hb hN n y _ k1 (by omega) g1 g2
    simp only [walkV_l1, io_lt, io_len, encN, hlt, decide_true, cond_true, idxG_some (ints_get hy), Option.bind_some, e, io_add, wr_up (show k < 9223372036854775807 by have := (hb _ hmem).kids; omega)]
   ·have hlt : ¬ (((t.nd x).kids.length : Int) < (ints (t.nd x).kids).length) := by rw [ints_len]; omega
    simp only [walkV_l1, io_lt, io_len, encN, hlt, decide_false, cond_false]
def seenK {α κ : Type} (key : α → κ) (l : List α) : List (κ × Bool) := l.map fun a => (key a, true)
theorem look_seenK {α κ : Type} [DecidableEq α] [DecidableEq κ] {key : α → κ} (hi : ∀ a b, key a = key b → a = b) (y : α) : ∀ l : List α, mlook (seenK key l) (key y) = if y ∈ l then some true else none
 | [] => rfl
 | a :: l => by
  have ih := look_seenK hi y l
  simp only [seenK, List.map_cons, mlook, List.mem_cons] at ih ⊢
  by_cases h : y = a
  ·subst h; simp
  ·rw [if_neg (fun e => h (hi _ _ e)), ih]
   simp [h]
theorem look_seenKD {α κ : Type} [DecidableEq α] [DecidableEq κ] {key : α → κ} (hi : ∀ a b, key a = key b → a = b) (y : α) (l : List α) : mlookD (seenK key l) (key y) false = decide (y ∈ l) := by
 unfold mlookD; rw [look_seenK hi]; split <;> simp [*]
theorem put_seenK {α κ : Type} [DecidableEq α] [DecidableEq κ] {key : α → κ} (hi : ∀ a b, key a = key b → a = b) {y : α} {l : List α} (h : y ∉ l) : mputG (seenK key l) (key y) true = seenK key (l ++ [y]) := by
 rw [mputG_new _ _ _ (by rw [look_seenK hi, if_neg h])]; simp [seenK]
def lcnt (t : Tab Decision) (k : Nat) : Nat := ((t.ns.take k).filter fun n => n.kids.isEmpty).length
structure Facts (t : Tab Decision) : Prop where
 fine : ∀ x, x < t.ns.length → Fine limL t.ns.length t.ls.length t.nd (t.nd x)
 nodup : t.ns.Nodup
 leaf : ∀ x, x < t.ns.length → (t.nd x).kids = [] → (t.nd x).leaf = lcnt t x
 ldup : (t.ls.take (lcnt t t.ns.length)).Nodup
theorem lcnt_succ {t : Tab Decision} {k : Nat} (hk : k < t.ns.length) : lcnt t (k + 1) = if (t.nd k).kids = [] then lcnt t k + 1 else lcnt t k := by
 have e : t.ns[k]? = some (t.nd k) := by unfold Tab.nd; rw [List.getD_eq_getElem?_getD, List.getElem?_eq_getElem hk]; rfl
 unfold lcnt
 rw [List.take_add_one, e, Option.toList_some, List.filter_append, List.length_append]
 by_cases h : (t.nd k).kids = []
 ·rw [if_pos h, List.filter_cons_of_pos (by simp [h])]; rfl
 ·rw [if_neg h, List.filter_cons_of_neg (by simp [h])]; rfl
theorem lcnt_mono {t : Tab Decision} {j k : Nat} (h : j ≤ k) : lcnt t j ≤ lcnt t k := by
 unfold lcnt
 obtain ⟨d, rfl⟩ : ∃ d, k = j + d := ⟨k - j, by omega⟩
 rw [List.take_add, List.filter_append, List.length_append]; omega
theorem lcnt_le (t : Tab Decision) (k : Nat) : lcnt t k ≤ t.ns.length := by
 unfold lcnt
 have h1 := List.length_filter_le (fun n : Nd => n.kids.isEmpty) (t.ns.take k)
 rw [List.length_take] at h1; omega
theorem nkeyE_inj : ∀ a b : Nd, nkey (encN a) = nkey (encN b) → a = b := fun _ _ h => encN_inj (nkey_inj h)
theorem nkey_text {n : Nd} (hb : Bd n) : table_text_g [(encN n).Cuts, (encN n).Kids, [(encN n).Attr, (encN n).Leaf]] = some (nkey (encN n)) := by
 rw [text_eq (textOk (fun x hx => by
  simp only [List.mem_cons, List.not_mem_nil, or_false] at hx
  rcases hx with rfl | rfl | rfl
  ·exact hb.cuts
  ·show (ints n.kids).length ≤ _; rw [ints_len]; exact hb.kids
  ·simp) (by simp) (fun x hx m hm => by
  simp only [List.mem_cons, List.not_mem_nil, or_false] at hx
  rcases hx with rfl | rfl | rfl
  ·exact hb.cv m hm
  ·obtain ⟨k, hk, rfl⟩ := ints_mem.1 (show m ∈ ints n.kids from hm)
   have := hb.kv k hk; omega
  ·have := hb.av; have := hb.lv
   simp only [encN, List.mem_cons, List.not_mem_nil, or_false] at hm
   rcases hm with rfl | rfl <;> omega))]
 rfl
theorem valid_loop {t : Tab Decision} (hb : ∀ n ∈ t.ns, Bd n) (hN : t.ns.length ≤ 20000) : ∃ b, whileG (table_Valid_l2 (tabE t)) ([], [], 0, 0) = some (if b = true then .inl ((lcnt t t.ns.length : Nat) : Int) else .inr false) ∧ (b = true ↔ Facts t) := by
 obtain ⟨r, h1, b, rfl, h2⟩ := loop_up (step := table_Valid_l2 (tabE t)) (fun (s : List (ByteArray × Bool) × List (Decision × Bool) × Int) i => (s.1, s.2.1, s.2.2, i)) t.ns.length
  (fun k s => s = (seenK (fun n => nkey (encN n)) (t.ns.take k), seenK id (t.ls.take (lcnt t k)), ((lcnt t k : Nat) : Int)) ∧ (∀ x, x < k → Fine limL t.ns.length t.ls.length t.nd (t.nd x)) ∧ (t.ns.take k).Nodup ∧ (∀ x, x < k → (t.nd x).kids = [] → (t.nd x).leaf = lcnt t x) ∧ (t.ls.take (lcnt t k)).Nodup)
  (fun r => ∃ b : Bool, r = (if b = true then .inl ((lcnt t t.ns.length : Nat) : Int) else .inr false) ∧ (b = true ↔ Facts t)) (fun k s hk hI => by
  obtain ⟨rfl, i1, i2, i3, i4⟩ := hI
  have hx : t.ns[k]? = some (t.nd k) := by unfold Tab.nd; rw [List.getD_eq_getElem?_getD, List.getElem?_eq_getElem hk]; rfl
  have hm : t.nd k ∈ t.ns := List.mem_of_getElem? hx
  have hbk := hb _ hm
  have hg : idxG (tabE t).Nodes (k : Int) = some (encN (t.nd k)) := idxG_some (encs_get hk)
  have hlt : (k : Int) < (tabE t).Nodes.length := by simp [tabE]; omega
  have hkl : ((encN (t.nd k)).Kids.length : Int) = ((t.nd k).kids.length : Nat) := by simp [encN, ints_len]
  have htk : t.ns.take (k + 1) = t.ns.take k ++ [t.nd k] := by rw [List.take_add_one, hx]; rfl
  have hsc := lcnt_succ hk
  have hcl := lcnt_le t k
  have no : ∀ {P : Prop}, ¬ P → (false = true ↔ P) := fun h => ⟨fun e => (by cases e), fun p => absurd p h⟩
  have hlook := look_seenKD nkeyE_inj (t.nd k) (t.ns.take k)
  simp only [table_Valid_l2, io_lt, io_len, hlt, decide_true, cond_true, hg, Option.bind_some, nkey_text hbk, hlook, io_eqi, hkl, io_not, io_add, wr_up (k := k) (by omega), wr_up (k := lcnt t k) (by omega)]
  by_cases hdup : t.nd k ∈ t.ns.take k
  ·refine .inr ⟨.inr false, by simp [hdup, orR], false, rfl, no fun F => ?_⟩
   have h3 : (t.ns.take (k + 1)).Nodup := F.nodup.sublist (List.take_sublist _ _)
   rw [htk, List.nodup_append] at h3
   exact h3.2.2 _ hdup _ (by simp) rfl
  ·obtain ⟨b, f1, f2⟩ := formed_eq t hbk (by omega)
   have hput := put_seenK nkeyE_inj hdup
   rw [decide_eq_false hdup, cond_false, f1, hput, ← htk]
   simp only [Option.bind_some]
   cases b with
   | false =>
    refine .inr ⟨.inr false, rfl, false, rfl, no fun F => ?_⟩
    have := f2.2 (F.fine k hk); cases this
   | true =>
    have hf := f2.1 rfl
    have hfine : ∀ x, x < k + 1 → Fine limL t.ns.length t.ls.length t.nd (t.nd x) := fun x hx => by
     rcases Nat.lt_or_eq_of_le (Nat.le_of_lt_succ hx) with h | h
     ·exact i1 x h
     ·rw [h]; exact hf
    have hnd : (t.ns.take (k + 1)).Nodup := by
     rw [htk, List.nodup_append]
     exact ⟨i2, by simp, fun a ha b hb e => hdup (by simp at hb; rw [← hb, ← e]; exact ha)⟩
    simp only [Bool.not_true, cond_false]
    by_cases hkk : (t.nd k).kids = []
    ·have h0 : (((t.nd k).kids.length : Nat) : Int) = 0 := by rw [hkk]; rfl
     rw [if_pos hkk] at hsc
     rw [decide_eq_true h0, cond_true]
     by_cases hle : (t.nd k).leaf = lcnt t k
     ·have hle' : (encN (t.nd k)).Leaf = ((lcnt t k : Nat) : Int) := by rw [← hle]; rfl
      have hll : lcnt t k < t.ls.length := by rw [← hle]; exact (hf.leaf hkk).2.2
      have hgl : t.ls[lcnt t k]? = some t.ls[lcnt t k] := by simp [hll]
      generalize t.ls[lcnt t k] = d at hgl
      have hgl' : idxG (tabE t).Leaves ((lcnt t k : Nat) : Int) = some d := idxG_some hgl
      have htl : t.ls.take (lcnt t k + 1) = t.ls.take (lcnt t k) ++ [d] := by rw [List.take_add_one, hgl]; rfl
      have hlookd := look_seenKD (key := id) (fun (a b : Decision) (h : id a = id b) => h) d (t.ls.take (lcnt t k))
      simp only [id] at hlookd
      rw [decide_eq_true hle', Bool.not_true, cond_false, hgl']
      simp only [Option.bind_some]
      have hid : seenK id (t.ls.take (lcnt t k)) = seenK (fun d : Decision => d) (t.ls.take (lcnt t k)) := rfl
      have hld : mlookD (seenK id (t.ls.take (lcnt t k))) d false = decide (d ∈ t.ls.take (lcnt t k)) := look_seenKD (key := id) (fun (a b : Decision) (h : id a = id b) => h) d (t.ls.take (lcnt t k))
      rw [hld]
      by_cases hdd : d ∈ t.ls.take (lcnt t k)
      ·refine .inr ⟨.inr false, by rw [decide_eq_true hdd]; rfl, false, rfl, no fun F => ?_⟩
       have h3 : (t.ls.take (lcnt t k + 1)).Nodup := by
        have := lcnt_mono (t := t) (show k + 1 ≤ t.ns.length by omega)
        have h4 : t.ls.take (lcnt t k + 1) = (t.ls.take (lcnt t t.ns.length)).take (lcnt t k + 1) := by rw [List.take_take]; congr 1; omega
        rw [h4]
        exact F.ldup.sublist (List.take_sublist _ _)
       rw [htl, List.nodup_append] at h3
       exact h3.2.2 _ hdd _ (by simp) rfl
      ·have hpd : mputG (seenK id (t.ls.take (lcnt t k))) d true = seenK id (t.ls.take (lcnt t k) ++ [d]) := put_seenK (key := id) (fun (a b : Decision) (h : id a = id b) => h) hdd
       refine .inl ⟨(seenK (fun n => nkey (encN n)) (t.ns.take (k + 1)), seenK id (t.ls.take (lcnt t (k + 1))), ((lcnt t (k + 1) : Nat) : Int)), ?_, rfl, hfine, hnd, fun x hx hxk => ?_, ?_⟩
       ·rw [decide_eq_false hdd, cond_false, hpd, ← htl, hsc]
        rfl
       ·rcases Nat.lt_or_eq_of_le (Nat.le_of_lt_succ hx) with h | h
        ·exact i3 x h hxk
        ·rw [h]; exact hle
       ·rw [hsc, htl, List.nodup_append]
        exact ⟨i4, by simp, fun a ha b hb e => hdd (by simp at hb; rw [← hb, ← e]; exact ha)⟩
     ·have hle' : ¬ ((encN (t.nd k)).Leaf = ((lcnt t k : Nat) : Int)) := fun e => hle (Int.ofNat.inj e)
      refine .inr ⟨.inr false, by rw [decide_eq_false hle']; rfl, false, rfl, no fun F => hle (F.leaf k hk hkk)⟩
    ·have h0 : ¬ (((t.nd k).kids.length : Nat) : Int) = 0 := by
      have : (t.nd k).kids.length ≠ 0 := by simpa using hkk
      omega
     rw [if_neg hkk] at hsc
     rw [decide_eq_false h0, cond_false]
     refine .inl ⟨(seenK (fun n => nkey (encN n)) (t.ns.take (k + 1)), seenK id (t.ls.take (lcnt t (k + 1))), ((lcnt t (k + 1) : Nat) : Int)), by rw [hsc]; rfl, rfl, hfine, hnd, fun x hx hxk => ?_, by rw [hsc]; exact i4⟩
     rcases Nat.lt_or_eq_of_le (Nat.le_of_lt_succ hx) with h | h
     ·exact i3 x h hxk
     ·rw [h] at hxk; exact absurd hxk hkk) (fun s hI => by
  obtain ⟨rfl, i1, i2, i3, i4⟩ := hI
  have hlt : ¬ ((t.ns.length : Int) < (tabE t).Nodes.length) := by simp [tabE]
  refine ⟨.inl ((lcnt t t.ns.length : Nat) : Int), by simp only [table_Valid_l2, io_lt, io_len, hlt, decide_false, cond_false], true, rfl, fun _ => ?_, fun _ => rfl⟩
  rw [List.take_length] at i2
  exact ⟨i1, i2, i3, i4⟩) ([], [], 0) (by simp [seenK, lcnt])
 exact ⟨b, h1, h2⟩
theorem canon_iff {t : Tab Decision} (hp : 0 < t.ns.length) : t.Canon limL ↔ Facts t ∧ walk (kidsOf t) 11 0 [] = List.range t.ns.length ∧ lcnt t t.ns.length = t.ls.length := by
 constructor
 ·intro c
  have e : lcnt t t.ns.length = t.ls.length := by unfold lcnt; rw [List.take_length, c.all]
  exact ⟨⟨c.ok.fine, c.ok.nodup, c.leaf, by rw [e, List.take_length]; exact c.ok.ldup⟩, c.walk, e⟩
 ·rintro ⟨F, w, e⟩
  refine ⟨⟨F.fine, F.nodup, ?_⟩, hp, w, F.leaf, ?_⟩
  ·have := F.ldup; rwa [e, List.take_length] at this
  ·rw [← e]; unfold lcnt; rw [List.take_length]
theorem Valid_tab {t : Tab Decision} (hb : ∀ n ∈ t.ns, Bd n) (hL : t.ls.length ≤ 1000000) : ∃ b, table_Valid_g (tabE t) = some b ∧ (b = true ↔ t.Canon limL ∧ t.ns.length ≤ 20000) := by
 have hnl : (tabE t).Nodes.length = t.ns.length := by simp [tabE]
 have hll : (tabE t).Leaves.length = t.ls.length := rfl
 unfold table_Valid_g
 simp only [io_lt, io_len, hnl, hll, io_eqi]
 by_cases h1 : t.ns.length < 1
 ·have : ((t.ns.length : Nat) : Int) < 1 := by omega
  rw [decide_eq_true this]
  exact ⟨false, rfl, ⟨fun h => (by cases h), fun h => by have := h.1.pos; omega⟩⟩
 ·have h1' : ¬ ((t.ns.length : Nat) : Int) < 1 := by omega
  rw [decide_eq_false h1', cond_false, Option.bind_some]
  by_cases h2 : 20000 < t.ns.length
  ·have : (20000 : Int) < ((t.ns.length : Nat) : Int) := by omega
   rw [decide_eq_true this, cond_true]
   exact ⟨false, rfl, ⟨fun h => (by cases h), fun h => by have := h.2; omega⟩⟩
  ·have h2' : ¬ (20000 : Int) < ((t.ns.length : Nat) : Int) := by omega
   rw [decide_eq_false h2', cond_false]
   obtain ⟨b, e, hbF⟩ := valid_loop hb (by omega)
   rw [e]
   have hc := canon_iff (t := t) (by omega)
   cases b with
   | false =>
    refine ⟨false, rfl, ⟨fun h => (by cases h), fun h => ?_⟩⟩
    exact hbF.2 (hc.1 h.1).1
   | true =>
    have F := hbF.1 rfl
    have hlv : ∀ x, x < t.ns.length → lev (t.nd x) ≤ 10 := fun x hx => by
     unfold lev
     split
     ·exact Nat.le_refl _
     ·rename_i hk; have := ((F.fine x hx).inner hk).1; omega
    have hkl : ∀ x, x < t.ns.length → ∀ k ∈ (t.nd x).kids, k < t.ns.length ∧ lev (t.nd x) < lev (t.nd k) := fun x hx k hk => by
     obtain ⟨k1, k2⟩ := (F.fine x hx).kid k hk
     refine ⟨k1, ?_⟩
     have : lev (t.nd x) = (t.nd x).attr := by unfold lev; rw [if_neg (List.ne_nil_of_mem hk)]
     omega
    have hw := walkV_eq hkl hlv hb (by omega) 11 0 [] (by omega) (by omega) (by simp) (by simp)
    have hw' : walkV (tabE t).Nodes 11 0 [] 0 = _ := hw
    obtain ⟨w1, -⟩ := walk_ok (kids := kidsOf t) (lv := fun x => lev (t.nd x)) (N := t.ns.length) hkl 11 0 [] (by omega) (by omega) (hlv 0 (by omega)) hlv
    simp only [if_true, orR, Option.bind_some, hw']
    generalize walk (kidsOf t) 11 0 [] = r at w1 hc
    have hlen := len_lt (w1.nod (by simp)) (fun x hx => (w1.lt x hx).elim (by simp) id)
    have hcr := cnt_le r
    by_cases h3 : cnt r = t.ns.length
    ·have h3' : ((cnt r : Nat) : Int) = ((t.ns.length : Nat) : Int) := by omega
     have hr : r = List.range t.ns.length := by
      have h4 : cnt r = r.length := by omega
      have h5 := cnt_all h4
      rw [h5]; congr 1; omega
     rw [decide_eq_true h3', cond_true]
     refine ⟨decide (lcnt t t.ns.length = t.ls.length), ?_, ?_⟩
     ·congr 1
      rw [decide_eq_decide]; omega
     ·rw [decide_eq_true_eq]
      exact ⟨fun h => ⟨hc.2 ⟨F, hr, h⟩, by omega⟩, fun h => (hc.1 h.1).2.2⟩
    ·have h3' : ¬ ((cnt r : Nat) : Int) = ((t.ns.length : Nat) : Int) := by omega
     rw [decide_eq_false h3', cond_false]
     refine ⟨false, rfl, ⟨fun h => (by cases h), fun h => ?_⟩⟩
     exact absurd (by rw [(hc.1 h.1).2.1, cnt_range]) h3
end Go.SX.Td
namespace Go.SX.Td
open Go Go.SX Tb
theorem kidx_loop (C : List Int) (f : A10 Int) {a : Nat} (ha : a < 10) (hC : C.length ≤ 100000) : whileG (table_Lookup_l26 C (a : Int) f) 0 = some (if kidx C (f.get a) < C.length then .inr ((kidx C (f.get a) : Nat) : Int) else .inl ()) := by
 obtain ⟨r, h1, rfl⟩ := loop_up (step := table_Lookup_l26 C (a : Int) f) (fun (_ : Unit) i => i) C.length
  (fun k _ => kidx C (f.get a) = k + kidx (C.drop k) (f.get a)) (fun r => r = if kidx C (f.get a) < C.length then .inr ((kidx C (f.get a) : Nat) : Int) else .inl ()) (fun k s hk hI => by
  have hx : C[k]? = some C[k] := by simp [hk]
  rw [List.drop_eq_getElem_cons hk] at hI
  generalize C[k] = x at hx hI
  have hlt : (k : Int) < C.length := by omega
  simp only [table_Lookup_l26, io_lt, io_len, hlt, decide_true, cond_true, idxG_some hx, pixG_some ha, Option.bind_some, io_add, wr_up (k := k) (by omega)]
  by_cases h : f.get a < x
  ·simp only [kidx] at hI
   rw [if_neg (by omega)] at hI
   refine .inr ⟨.inr (k : Int), by rw [decide_eq_true h]; rfl, ?_⟩
   rw [hI, Nat.add_zero, if_pos hk]
  ·simp only [kidx] at hI
   rw [if_pos (by omega)] at hI
   exact .inl ⟨(), by rw [decide_eq_false h]; rfl, by omega⟩) (fun s hI => by
  have hlt : ¬ ((C.length : Int) < C.length) := by omega
  refine ⟨.inl (), by simp only [table_Lookup_l26, io_lt, io_len, hlt, decide_false, cond_false], ?_⟩
  rw [if_neg]
  rw [List.drop_length] at hI
  simp only [kidx] at hI
  omega) () (by simp)
 exact h1
def fld (n : Nd) : Int × List Int × List Int × Int := ((n.attr : Int), n.cuts, ints n.kids, (n.leaf : Int))
theorem down_loop {t : Tab Decision} (h : t.Ok limL) (hb : ∀ n ∈ t.ns, Bd n) (f : A10 Int) : ∀ (n x : Nat), x < t.ns.length → 10 < n + lev (t.nd x) →
  ∃ y, whileG (table_Lookup_l22 f (tabE t)) (fld (t.nd x)) = some (fld (t.nd y)) ∧ y < t.ns.length ∧ (t.nd y).kids = [] ∧ t.valN (toF f) n x = t.ls.getD (t.nd y).leaf default
 | 0, x, hx, hl => by have := lev_le h hx; omega
 | n + 1, x, hx, hl => by
  have hmem : t.nd x ∈ t.ns := by unfold Tab.nd; rw [List.getD_eq_getElem?_getD, List.getElem?_eq_getElem hx]; exact List.getElem_mem _
  have hbx := hb _ hmem
  have hkl : ((ints (t.nd x).kids).length : Int) = ((t.nd x).kids.length : Nat) := by simp [ints_len]
  by_cases hk : (t.nd x).kids = []
  ·refine ⟨x, ?_, hx, hk, by simp only [Tab.valN, if_pos hk]⟩
   rw [whileG_eq]
   have h0 : ¬ ((0 : Int) < ((t.nd x).kids.length : Nat)) := by rw [hk]; simp
   simp only [fld, table_Lookup_l22, io_lt, io_len, hkl, decide_eq_false h0, cond_false]
  ·obtain ⟨k1, k2⟩ := kid_mem h hx hk (toF f (t.nd x).attr)
   obtain ⟨f1, f2, f3, f4, f5⟩ := (h.fine x hx).inner hk
   rw [toF_get f f1] at k1 k2
   have hkx := kidx_le (t.nd x).cuts (f.get (t.nd x).attr)
   generalize hi : kidx (t.nd x).cuts (f.get (t.nd x).attr) = i at k1 k2 hkx
   obtain ⟨l1, l2⟩ := kid_lev h hx _ k2
   generalize hz : (t.nd x).kids.getD i 0 = z at k1 k2 l1 l2
   obtain ⟨y, d1, d2, d3, d4⟩ := down_loop h hb f n z l1 (by omega)
   refine ⟨y, ?_, d2, d3, ?_⟩
   ·rw [whileG_eq]
    have h0 : (0 : Int) < ((t.nd x).kids.length : Nat) := by
     have : (t.nd x).kids.length ≠ 0 := by simpa using hk
     omega
    have hg : idxG (tabE t).Nodes (z : Int) = some (encN (t.nd z)) := idxG_some (encs_get l1)
    have hgk : idxG (ints (t.nd x).kids) (i : Int) = some (z : Int) := idxG_some (ints_get k1)
    have hloop := kidx_loop (t.nd x).cuts f f1 hbx.cuts
    rw [hi] at hloop
    simp only [fld, table_Lookup_l22, io_lt, io_len, hkl, decide_eq_true h0, cond_true, hloop]
    by_cases hlt : i < (t.nd x).cuts.length
    ·have h1 : ¬ ((i : Int) < 0) := by omega
     simp only [if_pos hlt, orR, Option.bind_some, decide_eq_false h1, cond_false, hgk, hg]
     exact d1
    ·have he : ((t.nd x).cuts.length : Int) = (i : Int) := by omega
     have h1 : ((-1 : Int) < 0) := by omega
     simp only [if_neg hlt, orR, Option.bind_some, decide_eq_true h1, cond_true, he, hgk, hg]
     exact d1
   ·simp only [Tab.valN, if_neg hk]
    rw [toF_get f f1, hi, hz]
    exact d4
theorem Lookup_eq {t : Tab Decision} (c : t.Canon limL) (hb : ∀ n ∈ t.ns, Bd n) (hN : t.ns.length ≤ 20000) (hL : t.ls.length ≤ 1000000) (f : A10 Int) : table_Lookup_g (tabE t) f = some (t.val (toF f) 0) := by
 obtain ⟨b, e, hbv⟩ := Valid_tab hb hL
 have hb1 := hbv.2 ⟨c, hN⟩
 subst hb1
 obtain ⟨y, d1, d2, d3, d4⟩ := down_loop c.ok hb f 11 0 c.pos (by omega)
 have h0 : idxG (tabE t).Nodes 0 = some (encN (t.nd 0)) := idxG_some (k := 0) (encs_get c.pos)
 have hl := ((c.ok.fine y d2).leaf d3).2.2
 have hg : idxG (tabE t).Leaves ((t.nd y).leaf : Int) = some (t.ls.getD (t.nd y).leaf default) := by
  refine idxG_some ?_
  show t.ls[_]? = _
  rw [List.getD_eq_getElem?_getD, List.getElem?_eq_getElem hl]; rfl
 unfold table_Lookup_g
 have d1' : whileG (table_Lookup_l22 f (tabE t)) ((encN (t.nd 0)).Attr, (encN (t.nd 0)).Cuts, (encN (t.nd 0)).Kids, (encN (t.nd 0)).Leaf) = some (((t.nd y).attr : Int), (t.nd y).cuts, ints (t.nd y).kids, ((t.nd y).leaf : Int)) := d1
 simp only [e, Option.bind_some, io_not, Bool.not_true, cond_false, h0, d1', hg]
 rw [← d4]; rfl
end Go.SX.Td
