/- Parts of the proof. -/
import Derived.Test.YtllbabjgpdmblaaDoorZTdQ1
import Derived.Test.YtllbabjgpdmblaaDoorZTdBuilder
import Derived.Test.YtllbabjgpdmblaaDoorZTd17
import Derived.Test.YtllbabjgpdmblaaDoorZTdP2
set_option linter.unusedSimpArgs false
set_option linter.unusedVariables false
set_option linter.unusedSectionVars false
namespace Go.SX.Td
open Go Go.SX Tb
def cnt (o : List Nat) : Nat := o.foldl (fun c x => if x = c then c + 1 else c) 0
theorem cnt_snoc (o : List Nat) (x : Nat) : cnt (o ++ [x]) = if x = cnt o then cnt o + 1 else cnt o := by unfold cnt; rw [List.foldl_append]; rfl
theorem cnt_fold : ∀ (o : List Nat) (c : Nat), c ≤ o.foldl (fun c x => if x = c then c + 1 else c) c ∧ o.foldl (fun c x => if x = c then c + 1 else c) c ≤ c + o.length ∧ (o.foldl (fun c x => if x = c then c + 1 else c) c = c + o.length → o = (List.range o.length).map (c + ·))
 | [], c => by simp
 | x :: o, c => by
  rw [List.foldl_cons]
  by_cases h : x = c
  ·rw [if_pos h]
   obtain ⟨h1, h2, h3⟩ := cnt_fold o (c + 1)
   refine ⟨by omega, by rw [List.length_cons]; omega, fun e => ?_⟩
   have := h3 (by rw [List.length_cons] at e; omega)
   rw [List.length_cons, List.range_succ_eq_map, List.map_cons, List.map_map, h]
   congr 1
   conv => lhs; rw [this]
   refine List.map_congr_left fun a _ => ?_
   simp only [Function.comp]; omega
  ·rw [if_neg h]
   obtain ⟨h1, h2, h3⟩ := cnt_fold o c
   refine ⟨h1, by rw [List.length_cons]; omega, fun e => ?_⟩
   rw [List.length_cons] at e; omega
theorem cnt_le (o : List Nat) : cnt o ≤ o.length := by have := (cnt_fold o 0).2.1; unfold cnt; omega
theorem cnt_all {o : List Nat} (h : cnt o = o.length) : o = List.range o.length := by
 have := (cnt_fold o 0).2.2 (by unfold cnt at h; omega)
 rw [this]; simp
theorem cnt_range : ∀ n, cnt (List.range n) = n
 | 0 => rfl
 | n + 1 => by rw [List.range_succ, cnt_snoc, cnt_range n, if_pos rfl]
theorem walkV_eq {t : Tab Decision} (hkl : ∀ x, x < t.ns.length → ∀ k ∈ (t.nd x).kids, k < t.ns.length ∧ lev (t.nd x) < lev (t.nd k)) (hlv : ∀ x, x < t.ns.length → lev (t.nd x) ≤ 10) (hb : ∀ n ∈ t.ns, Bd n) (hN : t.ns.length ≤ 20000) : ∀ (n x : Nat) (o : List Nat), x < t.ns.length → 10 < n + lev (t.nd x) → o.Nodup → (∀ y ∈ o, y < t.ns.length) →
  walkV (t.ns.map encN) n (x : Int) (seenE o) (cnt o : Int) = some (seenE (walk (kidsOf t) n x o), (cnt (walk (kidsOf t) n x o) : Int))
 | 0, x, o, hx, hl, _, _ => by have := hlv x hx; omega
 | n + 1, x, o, hx, hl, ho, hbo => by
  show walkV_b _ (walkV (t.ns.map encN) n) _ _ _ = _
  by_cases hm : x ∈ o
  ·simp only [walkV_b, Option.bind_some, look_seenD, hm, decide_true, cond_true, walk, if_true]
  ·have hnod : (o ++ [x]).Nodup := by
    rw [List.nodup_append]
    exact ⟨ho, by simp, fun a ha b hb e => hm (by simp at hb; rw [← hb, ← e]; exact ha)⟩
   have hlt' : ∀ y ∈ o ++ [x], y < t.ns.length := fun y hy => by
    rcases List.mem_append.1 hy with hy | hy
    ·exact hbo y hy
    ·simp at hy; omega
   have hlen : o.length < t.ns.length := by
    have := len_lt hnod hlt'
    simp at this; omega
   have hcl := cnt_le o
   have hc : (bif io.eq (x : Int) (cnt o : Int) then some (io.ar .add .i64 (cnt o : Int) 1) else some (cnt o : Int)) = some ((cnt (o ++ [x]) : Nat) : Int) := by
    rw [cnt_snoc, io_eqi, io_add, wr_up (by omega)]
    by_cases h : x = cnt o
    ·rw [if_pos h, decide_eq_true (by omega), cond_true]
    ·rw [if_neg h, decide_eq_false (by omega), cond_false]
   have hgx : idxG (t.ns.map encN) (x : Int) = some (encN (t.nd x)) := idxG_some (encs_get hx)
   simp only [walkV_b, Option.bind_some, look_seenD, hm, decide_false, cond_false, put_seen hm, hc, hgx, walk, if_false]
   have hgood : ∀ k, k ≤ (t.nd x).kids.length → (((t.nd x).kids.take k).foldl (fun o k => walk (kidsOf t) n k o) (o ++ [x])).Nodup ∧ ∀ y ∈ ((t.nd x).kids.take k).foldl (fun o k => walk (kidsOf t) n k o) (o ++ [x]), y < t.ns.length := by
    intro k
    induction k with
    | zero => intro _; simp only [List.take_zero, List.foldl_nil]; exact ⟨hnod, hlt'⟩
    | succ k ih =>
     intro hk
     obtain ⟨i1, i2⟩ := ih (by omega)
     have hg : (t.nd x).kids[k]? = some (t.nd x).kids[k] := by simp
     rw [List.take_add_one, hg, Option.toList_some, List.foldl_append]
     simp only [List.foldl_cons, List.foldl_nil]
     obtain ⟨k1, k2⟩ := hkl x hx _ (List.mem_of_getElem? hg)
     obtain ⟨w1, -⟩ := walk_ok (kids := kidsOf t) (lv := fun x => lev (t.nd x)) (N := t.ns.length) hkl n _ (((t.nd x).kids.take k).foldl (fun o k => walk (kidsOf t) n k o) (o ++ [x])) k1 (by omega) (hlv _ k1) hlv
     exact ⟨w1.nod i1, fun y hy => (w1.lt y hy).elim (i2 y) id⟩
   have hmem : t.nd x ∈ t.ns := by unfold Tab.nd; rw [List.getD_eq_getElem?_getD, List.getElem?_eq_getElem hx]; exact List.getElem_mem _
   refine loop_fold (step := walkV_l1 (encN (t.nd x)) (walkV (t.ns.map encN) n)) (fun (s : List Nat) i => (seenE s, (cnt s : Int), i)) (t.nd x).kids (fun o k => walk (kidsOf t) n k o) (o ++ [x]) _ (fun k y hy => ?_) ?_
   ·have hk : k < (t.nd x).kids.length := (List.getElem?_eq_some_iff.1 hy).1
    obtain ⟨g1, g2⟩ := hgood k (by omega)
    obtain ⟨k1, k2⟩ := hkl x hx y (List.mem_of_getElem? hy)
    have hlt : (k : Int) < (ints (t.nd x).kids).length := by rw [ints_len]; omega
    have e := walkV_eq hkl hlv hb hN n y _ k1 (by omega) g1 g2
    simp only [walkV_l1, io_lt, io_len, encN, hlt, decide_true, cond_true, idxG_some (ints_get hy), Option.bind_some, e, io_add, wr_up (show k < 9223372036854775807 by have := (hb _ hmem).kids; omega)]
   ·have hlt : ¬ (((t.nd x).kids.length : Int) < (ints (t.nd x).kids).length) := by rw [ints_len]; omega
    simp only [walkV_l1, io_lt, io_len, encN, hlt, decide_false, cond_false]
def seenK {α κ : Type} (key : α → κ) (l : List α) : List (κ × Bool) := l.map fun a => (key a, true)
theorem look_seenK {α κ : Type} [DecidableEq α] [DecidableEq κ] {key : α → κ} (hi : ∀ a b, key a = key b → a = b) (y : α) : ∀ l : List α, mlook (seenK key l) (key y) = if y ∈ l then some true else none
 | [] => rfl
 | a :: l => by
  have ih := look_seenK hi y l
  simp only [seenK, List.map_cons, mlook, List.mem_cons] at ih ⊢
  by_cases h : y = a
  ·subst h; simp
  ·rw [if_neg (fun e => h (hi _ _ e)), ih]
   simp [h]
theorem look_seenKD {α κ : Type} [DecidableEq α] [DecidableEq κ] {key : α → κ} (hi : ∀ a b, key a = key b → a = b) (y : α) (l : List α) : mlookD (seenK key l) (key y) false = decide (y ∈ l) := by
 unfold mlookD; rw [look_seenK hi]; split <;> simp [*]
theorem put_seenK {α κ : Type} [DecidableEq α] [DecidableEq κ] {key : α → κ} (hi : ∀ a b, key a = key b → a = b) {y : α} {l : List α} (h : y ∉ l) : mputG (seenK key l) (key y) true = seenK key (l ++ [y]) := by
 rw [mputG_new _ _ _ (by rw [look_seenK hi, if_neg h])]; simp [seenK]
def lcnt (t : Tab Decision) (k : Nat) : Nat := ((t.ns.take k).filter fun n => n.kids.isEmpty).length
structure Facts (t : Tab Decision) : Prop where
 fine : ∀ x, x < t.ns.length → Fine limL t.ns.length t.ls.length t.nd (t.nd x)
 nodup : t.ns.Nodup
 leaf : ∀ x, x < t.ns.length → (t.nd x).kids = [] → (t.nd x).leaf = lcnt t x
 ldup : (t.ls.take (lcnt t t.ns.length)).Nodup
theorem lcnt_succ {t : Tab Decision} {k : Nat} (hk : k < t.ns.length) : lcnt t (k + 1) = if (t.nd k).kids = [] then lcnt t k + 1 else lcnt t k := by
 have e : t.ns[k]? = some (t.nd k) := by unfold Tab.nd; rw [List.getD_eq_getElem?_getD, List.getElem?_eq_getElem hk]; rfl
 unfold lcnt
 rw [List.take_add_one, e, Option.toList_some, List.filter_append, List.length_append]
 by_cases h : (t.nd k).kids = []
 ·rw [if_pos h, List.filter_cons_of_pos (by simp [h])]; rfl
 ·rw [if_neg h, List.filter_cons_of_neg (by simp [h])]; rfl
theorem lcnt_mono {t : Tab Decision} {j k : Nat} (h : j ≤ k) : lcnt t j ≤ lcnt t k := by
 unfold lcnt
 obtain ⟨d, rfl⟩ : ∃ d, k = j + d := ⟨k - j, by omega⟩
 rw [List.take_add, List.filter_append, List.length_append]; omega
theorem lcnt_le (t : Tab Decision) (k : Nat) : lcnt t k ≤ t.ns.length := by
 unfold lcnt
 have h1 := List.length_filter_le (fun n : Nd => n.kids.isEmpty) (t.ns.take k)
 rw [List.length_take] at h1; omega
theorem nkeyE_inj : ∀ a b : Nd, nkey (encN a) = nkey (encN b) → a = b := fun _ _ h => encN_inj (nkey_inj h)
theorem nkey_text {n : Nd} (hb : Bd n) : table_text_g [(encN n).Cuts, (encN n).Kids, [(encN n).Attr, (encN n).Leaf]] = some (nkey (encN n)) := by
 rw [text_eq (textOk (fun x hx => by
  simp only [List.mem_cons, List.not_mem_nil, or_false] at hx
  rcases hx with rfl | rfl | rfl
  ·exact hb.cuts
  ·show (ints n.kids).length ≤ _; rw [ints_len]; exact hb.kids
  ·simp) (by simp) (fun x hx m hm => by
  simp only [List.mem_cons, List.not_mem_nil, or_false] at hx
  rcases hx with rfl | rfl | rfl
  ·exact hb.cv m hm
  ·obtain ⟨k, hk, rfl⟩ := ints_mem.1 (show m ∈ ints n.kids from hm)
   have := hb.kv k hk; omega
  ·have := hb.av; have := hb.lv
   simp only [encN, List.mem_cons, List.not_mem_nil, or_false] at hm
   rcases hm with rfl | rfl <;> omega))]
 rfl
theorem valid_loop {t : Tab Decision} (hb : ∀ n ∈ t.ns, Bd n) (hN : t.ns.length ≤ 20000) : ∃ b, whileG (table_Valid_l2 (tabE t)) ([], [], 0, 0) = some (if b = true then .inl ((lcnt t t.ns.length : Nat) : Int) else .inr false) ∧ (b = true ↔ Facts t) := by
 obtain ⟨r, h1, b, rfl, h2⟩ := loop_up (step := table_Valid_l2 (tabE t)) (fun (s : List (ByteArray × Bool) × List (Decision × Bool) × Int) i => (s.1, s.2.1, s.2.2, i)) t.ns.length
  (fun k s => s = (seenK (fun n => nkey (encN n)) (t.ns.take k), seenK id (t.ls.take (lcnt t k)), ((lcnt t k : Nat) : Int)) ∧ (∀ x, x < k → Fine limL t.ns.length t.ls.length t.nd (t.nd x)) ∧ (t.ns.take k).Nodup ∧ (∀ x, x < k → (t.nd x).kids = [] → (t.nd x).leaf = lcnt t x) ∧ (t.ls.take (lcnt t k)).Nodup)
  (fun r => ∃ b : Bool, r = (if b = true then .inl ((lcnt t t.ns.length : Nat) : Int) else .inr false) ∧ (b = true ↔ Facts t)) (fun k s hk hI => by
  obtain ⟨rfl, i1, i2, i3, i4⟩ := hI
  have hx : t.ns[k]? = some (t.nd k) := by unfold Tab.nd; rw [List.getD_eq_getElem?_getD, List.getElem?_eq_getElem hk]; rfl
  have hm : t.nd k ∈ t.ns := List.mem_of_getElem? hx
  have hbk := hb _ hm
  have hg : idxG (tabE t).Nodes (k : Int) = some (encN (t.nd k)) := idxG_some (encs_get hk)
  have hlt : (k : Int) < (tabE t).Nodes.length := by simp [tabE]; omega
  have hkl : ((encN (t.nd k)).Kids.length : Int) = ((t.nd k).kids.length : Nat) := by simp [encN, ints_len]
  have htk : t.ns.take (k + 1) = t.ns.take k ++ [t.nd k] := by rw [List.take_add_one, hx]; rfl
  have hsc := lcnt_succ hk
  have hcl := lcnt_le t k
  have no : ∀ {P : Prop}, ¬ P → (false = true ↔ P) := fun h => ⟨fun e => (by cases e), fun p => absurd p h⟩
  have hlook := look_seenKD nkeyE_inj (t.nd k) (t.ns.take k)
  simp only [table_Valid_l2, io_lt, io_len, hlt, decide_true, cond_true, hg, Option.bind_some, nkey_text hbk, hlook, io_eqi, hkl, io_not, io_add, wr_up (k := k) (by omega), wr_up (k := lcnt t k) (by omega)]
  by_cases hdup : t.nd k ∈ t.ns.take k
  ·refine .inr ⟨.inr false, by simp [hdup, orR], false, rfl, no fun F => ?_⟩
   have h3 : (t.ns.take (k + 1)).Nodup := F.nodup.sublist (List.take_sublist _ _)
   rw [htk, List.nodup_append] at h3
   exact h3.2.2 _ hdup _ (by simp) rfl
  ·obtain ⟨b, f1, f2⟩ := formed_eq t hbk (by omega)
   have hput := put_seenK nkeyE_inj hdup
   rw [decide_eq_false hdup, cond_false, f1, hput, ← htk]
   simp only [Option.bind_some]
   cases b with
   | false =>
    refine .inr ⟨.inr false, rfl, false, rfl, no fun F => ?_⟩
    have := f2.2 (F.fine k hk); cases this
   | true =>
    have hf := f2.1 rfl
    have hfine : ∀ x, x < k + 1 → Fine limL t.ns.length t.ls.length t.nd (t.nd x) := fun x hx => by
     rcases Nat.lt_or_eq_of_le (Nat.le_of_lt_succ hx) with h | h
     ·exact i1 x h
     ·rw [h]; exact hf
    have hnd : (t.ns.take (k + 1)).Nodup := by
     rw [htk, List.nodup_append]
     exact ⟨i2, by simp, fun a ha b hb e => hdup (by simp at hb; rw [← hb, ← e]; exact ha)⟩
    simp only [Bool.not_true, cond_false]
    by_cases hkk : (t.nd k).kids = []
    ·have h0 : (((t.nd k).kids.length : Nat) : Int) = 0 := by rw [hkk]; rfl
     rw [if_pos hkk] at hsc
     rw [decide_eq_true h0, cond_true]
     by_cases hle : (t.nd k).leaf = lcnt t k
     ·have hle' : (encN (t.nd k)).Leaf = ((lcnt t k : Nat) : Int) := by rw [← hle]; rfl
      have hll : lcnt t k < t.ls.length := by rw [← hle]; exact (hf.leaf hkk).2.2
      have hgl : t.ls[lcnt t k]? = some t.ls[lcnt t k] := by simp [hll]
      generalize t.ls[lcnt t k] = d at hgl
      have hgl' : idxG (tabE t).Leaves ((lcnt t k : Nat) : Int) = some d := idxG_some hgl
      have htl : t.ls.take (lcnt t k + 1) = t.ls.take (lcnt t k) ++ [d] := by rw [List.take_add_one, hgl]; rfl
      have hlookd := look_seenKD (key := id) (fun (a b : Decision) (h : id a = id b) => h) d (t.ls.take (lcnt t k))
      simp only [id] at hlookd
      rw [decide_eq_true hle', Bool.not_true, cond_false, hgl']
      simp only [Option.bind_some]
      have hid : seenK id (t.ls.take (lcnt t k)) = seenK (fun d : Decision => d) (t.ls.take (lcnt t k)) := rfl
      have hld : mlookD (seenK id (t.ls.take (lcnt t k))) d false = decide (d ∈ t.ls.take (lcnt t k)) := look_seenKD (key := id) (fun (a b : Decision) (h : id a = id b) => h) d (t.ls.take (lcnt t k))
      rw [hld]
      by_cases hdd : d ∈ t.ls.take (lcnt t k)
      ·refine .inr ⟨.inr false, by rw [decide_eq_true hdd]; rfl, false, rfl, no fun F => ?_⟩
       have h3 : (t.ls.take (lcnt t k + 1)).Nodup := by
        have := lcnt_mono (t := t) (show k + 1 ≤ t.ns.length by omega)
        have h4 : t.ls.take (lcnt t k + 1) = (t.ls.take (lcnt t t.ns.length)).take (lcnt t k + 1) := by rw [List.take_take]; congr 1; omega
        rw [h4]
        exact F.ldup.sublist (List.take_sublist _ _)
       rw [htl, List.nodup_append] at h3
       exact h3.2.2 _ hdd _ (by simp) rfl
      ·have hpd : mputG (seenK id (t.ls.take (lcnt t k))) d true = seenK id (t.ls.take (lcnt t k) ++ [d]) := put_seenK (key := id) (fun (a b : Decision) (h : id a = id b) => h) hdd
       refine .inl ⟨(seenK (fun n => nkey (encN n)) (t.ns.take (k + 1)), seenK id (t.ls.take (lcnt t (k + 1))), ((lcnt t (k + 1) : Nat) : Int)), ?_, rfl, hfine, hnd, fun x hx hxk => ?_, ?_⟩
       ·rw [decide_eq_false hdd, cond_false, hpd, ← htl, hsc]
        rfl
       ·rcases Nat.lt_or_eq_of_le (Nat.le_of_lt_succ hx) with h | h
        ·exact i3 x h hxk
        ·rw [h]; exact hle
       ·rw [hsc, htl, List.nodup_append]
        exact ⟨i4, by simp, fun a ha b hb e => hdd (by simp at hb; rw [← hb, ← e]; exact ha)⟩
     ·have hle' : ¬ ((encN (t.nd k)).Leaf = ((lcnt t k : Nat) : Int)) := fun e => hle (Int.ofNat.inj e)
      refine .inr ⟨.inr false, by rw [decide_eq_false hle']; rfl, false, rfl, no fun F => hle (F.leaf k hk hkk)⟩
    ·have h0 : ¬ (((t.nd k).kids.length : Nat) : Int) = 0 := by
      have : (t.nd k).kids.length ≠ 0 := by simpa using hkk
      omega
     rw [if_neg hkk] at hsc
     rw [decide_eq_false h0, cond_false]
     refine .inl ⟨(seenK (fun n => nkey (encN n)) (t.ns.take (k + 1)), seenK id (t.ls.take (lcnt t (k + 1))), ((lcnt t (k + 1) : Nat) : Int)), by rw [hsc]; rfl, rfl, hfine, hnd, fun x hx hxk => ?_, by rw [hsc]; exact i4⟩
     rcases Nat.lt_or_eq_of_le (Nat.le_of_lt_succ hx) with h | h
     ·exact i3 x h hxk
     ·rw [h] at hxk; exact absurd hxk hkk) (fun s hI => by
  obtain ⟨rfl, i1, i2, i3, i4⟩ := hI
  have hlt : ¬ ((t.ns.length : Int) < (tabE t).Nodes.length) := by simp [tabE]
  refine ⟨.inl ((lcnt t t.ns.length : Nat) : Int), by simp only [table_Valid_l2, io_lt, io_len, hlt, decide_false, cond_false], true, rfl, fun _ => ?_, fun _ => rfl⟩
  rw [List.take_length] at i2
  exact ⟨i1, i2, i3, i4⟩) ([], [], 0) (by simp [seenK, lcnt])
 exact ⟨b, h1, h2⟩
theorem canon_iff {t : Tab Decision} (hp : 0 < t.ns.length) : t.Canon limL ↔ Facts t ∧ walk (kidsOf t) 11 0 [] = List.range t.ns.length ∧ lcnt t t.ns.length = t.ls.length := by
 constructor
 ·intro c
  have e : lcnt t t.ns.length = t.ls.length := by unfold lcnt; rw [List.take_length, c.all]
  exact ⟨⟨c.ok.fine, c.ok.nodup, c.leaf, by rw [e, List.take_length]; exact c.ok.ldup⟩, c.walk, e⟩
 ·rintro ⟨F, w, e⟩
  refine ⟨⟨F.fine, F.nodup, ?_⟩, hp, w, F.leaf, ?_⟩
  ·have := F.ldup; rwa [e, List.take_length] at this
  ·rw [← e]; unfold lcnt; rw [List.take_length]
theorem Valid_tab {t : Tab Decision} (hb : ∀ n ∈ t.ns, Bd n) (hL : t.ls.length ≤ 1000000) : ∃ b, table_Valid_g (tabE t) = some b ∧ (b = true ↔ t.Canon limL ∧ t.ns.length ≤ 20000) := by
 have hnl : (tabE t).Nodes.length = t.ns.length := by simp [tabE]
 have hll : (tabE t).Leaves.length = t.ls.length := rfl
 unfold table_Valid_g
 simp only [io_lt, io_len, hnl, hll, io_eqi]
 by_cases h1 : t.ns.length < 1
 ·have : ((t.ns.length : Nat) : Int) < 1 := by omega
  rw [decide_eq_true this]
  exact ⟨false, rfl, ⟨fun h => (by cases h), fun h => by have := h.1.pos; omega⟩⟩
 ·have h1' : ¬ ((t.ns.length : Nat) : Int) < 1 := by omega
  rw [decide_eq_false h1', cond_false, Option.bind_some]
  by_cases h2 : 20000 < t.ns.length
  ·have : (20000 : Int) < ((t.ns.length : Nat) : Int) := by omega
   rw [decide_eq_true this, cond_true]
   exact ⟨false, rfl, ⟨fun h => (by cases h), fun h => by have := h.2; omega⟩⟩
  ·have h2' : ¬ (20000 : Int) < ((t.ns.length : Nat) : Int) := by omega
   rw [decide_eq_false h2', cond_false]
   obtain ⟨b, e, hbF⟩ := valid_loop hb (by omega)
   rw [e]
   have hc := canon_iff (t := t) (by omega)
   cases b with
   | false =>
    refine ⟨false, rfl, ⟨fun h => (by cases h), fun h => ?_⟩⟩
    exact hbF.2 (hc.1 h.1).1
   | true =>
    have F := hbF.1 rfl
    have hlv : ∀ x, x < t.ns.length → lev (t.nd x) ≤ 10 := fun x hx => by
     unfold lev
     split
     ·exact Nat.le_refl _
     ·rename_i hk; have := ((F.fine x hx).inner hk).1; omega
    have hkl : ∀ x, x < t.ns.length → ∀ k ∈ (t.nd x).kids, k < t.ns.length ∧ lev (t.nd x) < lev (t.nd k) := fun x hx k hk => by
     obtain ⟨k1, k2⟩ := (F.fine x hx).kid k hk
     refine ⟨k1, ?_⟩
     have : lev (t.nd x) = (t.nd x).attr := by unfold lev; rw [if_neg (List.ne_nil_of_mem hk)]
     omega
    have hw := walkV_eq hkl hlv hb (by omega) 11 0 [] (by omega) (by omega) (by simp) (by simp)
    have hw' : walkV (tabE t).Nodes 11 0 [] 0 = _ := hw
    obtain ⟨w1, -⟩ := walk_ok (kids := kidsOf t) (lv := fun x => lev (t.nd x)) (N := t.ns.length) hkl 11 0 [] (by omega) (by omega) (hlv 0 (by omega)) hlv
    simp only [if_true, orR, Option.bind_some, hw']
    generalize walk (kidsOf t) 11 0 [] = r at w1 hc
    have hlen := len_lt (w1.nod (by simp)) (fun x hx => (w1.lt x hx).elim (by simp) id)
    have hcr := cnt_le r
    by_cases h3 : cnt r = t.ns.length
    ·have h3' : ((cnt r : Nat) : Int) = ((t.ns.length : Nat) : Int) := by omega
     have hr : r = List.range t.ns.length := by
      have h4 : cnt r = r.length := by omega
      have h5 := cnt_all h4
      rw [h5]; congr 1; omega
     rw [decide_eq_true h3', cond_true]
     refine ⟨decide (lcnt t t.ns.length = t.ls.length), ?_, ?_⟩
     ·congr 1
      rw [decide_eq_decide]; omega
     ·rw [decide_eq_true_eq]
      exact ⟨fun h => ⟨hc.2 ⟨F, hr, h⟩, by omega⟩, fun h => (hc.1 h.1).2.2⟩
    ·have h3' : ¬ ((cnt r : Nat) : Int) = ((t.ns.length : Nat) : Int) := by omega
     rw [decide_eq_false h3', cond_false]
     refine ⟨false, rfl, ⟨fun h => (by cases h), fun h => ?_⟩⟩
     exact absurd (by rw [(hc.1 h.1).2.1, cnt_range]) h3
end Go.SX.Td
namespace Go.SX.Td
open Go Go.SX Tb
theorem kidx_loop (C : List Int) (f : A10 Int) {a : Nat} (ha : a < 10) (hC : C.length ≤ 100000) : whileG (table_Lookup_l26 C (a : Int) f) 0 = some (if kidx C (f.get a) < C.length then .inr ((kidx C (f.get a) : Nat) : Int) else .inl ()) := by
 obtain ⟨r, h1, rfl⟩ := loop_up (step := table_Lookup_l26 C (a : Int) f) (fun (_ : Unit) i => i) C.length
  (fun k _ => kidx C (f.get a) = k + kidx (C.drop k) (f.get a)) (fun r => r = if kidx C (f.get a) < C.length then .inr ((kidx C (f.get a) : Nat) : Int) else .inl ()) (fun k s hk hI => by
  have hx : C[k]? = some C[k] := by simp [hk]
  rw [List.drop_eq_getElem_cons hk] at hI
  generalize C[k] = x at hx hI
  have hlt : (k : Int) < C.length := by omega
  simp only [table_Lookup_l26, io_lt, io_len, hlt, decide_true, cond_true, idxG_some hx, pixG_some ha, Option.bind_some, io_add, wr_up (k := k) (by omega)]
  by_cases h : f.get a < x
  ·simp only [kidx] at hI
   rw [if_neg (by omega)] at hI
   refine .inr ⟨.inr (k : Int), by rw [decide_eq_true h]; rfl, ?_⟩
   rw [hI, Nat.add_zero, if_pos hk]
  ·simp only [kidx] at hI
   rw [if_pos (by omega)] at hI
   exact .inl ⟨(), by rw [decide_eq_false h]; rfl, by omega⟩) (fun s hI => by
  have hlt : ¬ ((C.length : Int) < C.length) := by omega
  refine ⟨.inl (), by simp only [table_Lookup_l26, io_lt, io_len, hlt, decide_false, cond_false], ?_⟩
  rw [if_neg]
  rw [List.drop_length] at hI
  simp only [kidx] at hI
  omega) () (by simp)
 exact h1
def fld (n : Nd) : Int × List Int × List Int × Int := ((n.attr : Int), n.cuts, ints n.kids, (n.leaf : Int))
theorem down_loop {t : Tab Decision} (h : t.Ok limL) (hb : ∀ n ∈ t.ns, Bd n) (f : A10 Int) : ∀ (n x : Nat), x < t.ns.length → 10 < n + lev (t.nd x) →
  ∃ y, whileG (table_Lookup_l22 f (tabE t)) (fld (t.nd x)) = some (fld (t.nd y)) ∧ y < t.ns.length ∧ (t.nd y).kids = [] ∧ t.valN (toF f) n x = t.ls.getD (t.nd y).leaf default
 | 0, x, hx, hl => by have := lev_le h hx; omega
 | n + 1, x, hx, hl => by
  have hmem : t.nd x ∈ t.ns := by unfold Tab.nd; rw [List.getD_eq_getElem?_getD, List.getElem?_eq_getElem hx]; exact List.getElem_mem _
  have hbx := hb _ hmem
  have hkl : ((ints (t.nd x).kids).length : Int) = ((t.nd x).kids.length : Nat) := by simp [ints_len]
  by_cases hk : (t.nd x).kids = []
  ·refine ⟨x, ?_, hx, hk, by simp only [Tab.valN, if_pos hk]⟩
   rw [whileG_eq]
   have h0 : ¬ ((0 : Int) < ((t.nd x).kids.length : Nat)) := by rw [hk]; simp
   simp only [fld, table_Lookup_l22, io_lt, io_len, hkl, decide_eq_false h0, cond_false]
  ·obtain ⟨k1, k2⟩ := kid_mem h hx hk (toF f (t.nd x).attr)
   obtain ⟨f1, f2, f3, f4, f5⟩ := (h.fine x hx).inner hk
   rw [toF_get f f1] at k1 k2
   have hkx := kidx_le (t.nd x).cuts (f.get (t.nd x).attr)
   generalize hi : kidx (t.nd x).cuts (f.get (t.nd x).attr) = i at k1 k2 hkx
   obtain ⟨l1, l2⟩ := kid_lev h hx _ k2
   generalize hz : (t.nd x).kids.getD i 0 = z at k1 k2 l1 l2
   obtain ⟨y, d1, d2, d3, d4⟩ := down_loop h hb f n z l1 (by omega)
   refine ⟨y, ?_, d2, d3, ?_⟩
   ·rw [whileG_eq]
    have h0 : (0 : Int) < ((t.nd x).kids.length : Nat) := by
     have : (t.nd x).kids.length ≠ 0 := by simpa using hk
     omega
    have hg : idxG (tabE t).Nodes (z : Int) = some (encN (t.nd z)) := idxG_some (encs_get l1)
    have hgk : idxG (ints (t.nd x).kids) (i : Int) = some (z : Int) := idxG_some (ints_get k1)
    have hloop := kidx_loop (t.nd x).cuts f f1 hbx.cuts
    rw [hi] at hloop
    simp only [fld, table_Lookup_l22, io_lt, io_len, hkl, decide_eq_true h0, cond_true, hloop]
    by_cases hlt : i < (t.nd x).cuts.length
    ·have h1 : ¬ ((i : Int) < 0) := by omega
     simp only [if_pos hlt, orR, Option.bind_some, decide_eq_false h1, cond_false, hgk, hg]
     exact d1
    ·have he : ((t.nd x).cuts.length : Int) = (i : Int) := by omega
     have h1 : ((-1 : Int) < 0) := by omega
     simp only [if_neg hlt, orR, Option.bind_some, decide_eq_true h1, cond_true, he, hgk, hg]
     exact d1
   ·simp only [Tab.valN, if_neg hk]
    rw [toF_get f f1, hi, hz]
    exact d4
theorem Lookup_eq {t : Tab Decision} (c : t.Canon limL) (hb : ∀ n ∈ t.ns, Bd n) (hN : t.ns.length ≤ 20000) (hL : t.ls.length ≤ 1000000) (f : A10 Int) : table_Lookup_g (tabE t) f = some (t.val (toF f) 0) := by
 obtain ⟨b, e, hbv⟩ := Valid_tab hb hL
 have hb1 := hbv.2 ⟨c, hN⟩
 subst hb1
 obtain ⟨y, d1, d2, d3, d4⟩ := down_loop c.ok hb f 11 0 c.pos (by omega)
 have h0 : idxG (tabE t).Nodes 0 = some (encN (t.nd 0)) := idxG_some (k := 0) (encs_get c.pos)
 have hl := ((c.ok.fine y d2).leaf d3).2.2
 have hg : idxG (tabE t).Leaves ((t.nd y).leaf : Int) = some (t.ls.getD (t.nd y).leaf default) := by
  refine idxG_some ?_
  show t.ls[_]? = _
  rw [List.getD_eq_getElem?_getD, List.getElem?_eq_getElem hl]; rfl
 unfold table_Lookup_g
 have d1' : whileG (table_Lookup_l22 f (tabE t)) ((encN (t.nd 0)).Attr, (encN (t.nd 0)).Cuts, (encN (t.nd 0)).Kids, (encN (t.nd 0)).Leaf) = some (((t.nd y).attr : Int), (t.nd y).cuts, ints (t.nd y).kids, ((t.nd y).leaf : Int)) := d1
 simp only [e, Option.bind_some, io_not, Bool.not_true, cond_false, h0, d1', hg]
 rw [← d4]; rfl
theorem Lookup_bad {t : Tab Decision} (c : ¬ t.Canon limL) (hb : ∀ n ∈ t.ns, Bd n) (hL : t.ls.length ≤ 1000000) (f : A10 Int) : table_Lookup_g (tabE t) f = some (Decision.mk false false false 0 0 (Ratio.mk 0 0) (Ratio.mk 0 0) (Ratio.mk 0 0) (Ratio.mk 0 0) (Ratio.mk 0 0) 0) := by
 obtain ⟨b, e, hbv⟩ := Valid_tab hb hL
 have hb1 : b = false := by
  cases b with
  | false => rfl
  | true => exact absurd (hbv.1 rfl).1 c
 subst hb1
 unfold table_Lookup_g
 simp only [e, Option.bind_some, io_not, Bool.not_false, cond_true]
theorem builtT_len {p : Policy} (G : PG p) : (builtT p).ns.length ≤ 20000 ∧ (builtT p).ls.length ≤ 20000 := by
 obtain ⟨b1, b2, -⟩ := builtB_ok p
 obtain ⟨n1, n2⟩ := G.bnd _ b1
 obtain ⟨w1, -⟩ := walk_ok (kids := kidsOf (builtB p).1.tab) (lv := fun x => lev ((builtB p).1.tab.nd x)) (N := (builtB p).1.tab.ns.length) (fun x hx k hk => kid_lev b1.ok hx k hk) 11 (builtB p).2 [] b2 (by omega) (lev_le b1.ok b2) (fun x hx => lev_le b1.ok hx)
 have hO := len_lt (w1.nod (by simp)) (fun x hx => (w1.lt x hx).elim (by simp) id)
 have e1 : (builtT p).ns = ren (builtB p).1.tab (pos (walk (kidsOf (builtB p).1.tab) 11 (builtB p).2 [])) (walk (kidsOf (builtB p).1.tab) 11 (builtB p).2 []) 0 := rfl
 have e2 : (builtT p).ls = lvs (builtB p).1.tab (walk (kidsOf (builtB p).1.tab) 11 (builtB p).2 []) := rfl
 rw [e1, e2, ren_len, lvs_len]
 unfold lno
 have := List.length_filter_le (fun x => ((builtB p).1.tab.nd x).kids.isEmpty) (walk (kidsOf (builtB p).1.tab) 11 (builtB p).2 [])
 omega
theorem canon_Bd {t : Tab Decision} (c : t.Canon limL) (hN : t.ns.length ≤ 20000) (hL : t.ls.length ≤ 20000) (hk : ∀ n ∈ t.ns, n.kids.length ≤ 2001) : ∀ n ∈ t.ns, Bd n := by
 intro n hn
 obtain ⟨x, hx⟩ := List.getElem?_of_mem hn
 have hxl := (List.getElem?_eq_some_iff.1 hx).1
 have e : t.nd x = n := by unfold Tab.nd; rw [List.getD_eq_getElem?_getD, hx]; rfl
 have F := c.ok.fine x hxl
 rw [e] at F
 have := hk n hn
 by_cases h : n.kids = []
 ·obtain ⟨f1, f2, f3⟩ := F.leaf h
  exact ⟨by rw [f1]; simp, by omega, by rw [f1]; simp, by rw [h]; simp, by omega, by omega⟩
 ·obtain ⟨f1, f2, f3, f4, f5⟩ := F.inner h
  refine ⟨by omega, by omega, fun c hc => ?_, fun k hk => ?_, by omega, by omega⟩
  ·have := asc_gt f5 c hc; have := lim_get n.attr; omega
  ·have := (F.kid k hk).1; omega
theorem builtT_kids {p : Policy} (G : PG p) : ∀ n ∈ (builtT p).ns, n.kids.length ≤ 2001 := by
 intro n hn
 obtain ⟨b1, b2, -⟩ := builtB_ok p
 have hsm := builtB_small G.nz
 obtain ⟨w1, -⟩ := walk_ok (kids := kidsOf (builtB p).1.tab) (lv := fun x => lev ((builtB p).1.tab.nd x)) (N := (builtB p).1.tab.ns.length) (fun x hx k hk => kid_lev b1.ok hx k hk) 11 (builtB p).2 [] b2 (by omega) (lev_le b1.ok b2) (fun x hx => lev_le b1.ok hx)
 obtain ⟨i, hi⟩ := List.getElem?_of_mem hn
 rw [show (builtT p).ns = ren (builtB p).1.tab (pos (walk (kidsOf (builtB p).1.tab) 11 (builtB p).2 [])) (walk (kidsOf (builtB p).1.tab) 11 (builtB p).2 []) 0 from rfl, ren_get] at hi
 obtain ⟨x, hx, rfl⟩ := Option.map_eq_some_iff.1 hi
 have hxl : x < (builtB p).1.tab.ns.length := (w1.lt x (List.mem_of_getElem? hx)).elim (by simp) id
 rw [List.length_map]
 exact hsm _ (by unfold Tab.nd; rw [List.getD_eq_getElem?_getD, List.getElem?_eq_getElem hxl]; exact List.getElem_mem _)
theorem builtT_Bd {p : Policy} (G : PG p) : ∀ n ∈ (builtT p).ns, Bd n := by
 obtain ⟨h1, h2⟩ := builtT_len G
 exact canon_Bd (builtT_ok p).1 h1 h2 (builtT_kids G)
theorem built_Valid {p : Policy} (G : PG p) : table_Valid_g (tabE (builtT p)) = some true := by
 obtain ⟨h1, h2⟩ := builtT_len G
 obtain ⟨b, e, hb⟩ := Valid_tab (builtT_Bd G) (by omega)
 rw [e, hb.2 ⟨(builtT_ok p).1, h1⟩]
theorem built_Lookup {p : Policy} (G : PG p) (f : A10 Int) : table_Lookup_g (tabE (builtT p)) f = some ((builtT p).val (toF f) 0) := by
 obtain ⟨h1, h2⟩ := builtT_len G
 exact Lookup_eq (builtT_ok p).1 (builtT_Bd G) h1 (by omega) f
end Go.SX.Td
namespace Go.SX.Td
open Go Go.SX Tb
theorem Tab.eq_of {t s : Tab Decision} (h : t.ns = s.ns ∧ t.ls = s.ls) : t = s := by
 obtain ⟨a, b⟩ := t; obtain ⟨c, d⟩ := s; obtain ⟨rfl, rfl⟩ := h; rfl
theorem builtT_is {p : Policy} {t : Tab Decision} (c : t.Canon limL) (h : ∀ g, limL.In g → t.val g 0 = decS p (toA g)) : builtT p = t :=
 Tab.eq_of (Canon.unique limL_ok (builtT_ok p).1 c (funext fun ⟨g, hg⟩ => by
  show (builtT p).val g 0 = t.val g 0
  rw [(builtT_ok p).2 g hg, h g hg]))
def t1 (d : Decision) : Tab Decision := ⟨[⟨0, [], [], 0⟩], [d]⟩
def t3 (d0 d1 : Decision) : Tab Decision := ⟨[⟨2, [1], [1, 2], 0⟩, ⟨0, [], [], 0⟩, ⟨0, [], [], 1⟩], [d0, d1]⟩
def t5 (d0 d1 d2 : Decision) : Tab Decision := ⟨[⟨1, [18], [1, 2], 0⟩, ⟨0, [], [], 0⟩, ⟨2, [1], [3, 4], 0⟩, ⟨0, [], [], 1⟩, ⟨0, [], [], 2⟩], [d0, d1, d2]⟩
theorem fine_leaf {nn nl : Nat} {nd : Nat → Nd} {k : Nat} (h : k < nl) : Fine limL nn nl nd ⟨0, [], [], k⟩ :=
 ⟨fun _ => ⟨rfl, rfl, h⟩, fun h => absurd rfl h, fun k hk => (by cases hk), trivial⟩
theorem fine_two {nn nl : Nat} {nd : Nat → Nd} {a : Nat} {c : Int} {i j : Nat} (ha : a < 10) (hc : limL.lo a < c ∧ c ≤ limL.hi a) (hij : i ≠ j) (hi : i < nn ∧ a < lev (nd i)) (hj : j < nn ∧ a < lev (nd j)) : Fine limL nn nl nd ⟨a, [c], [i, j], 0⟩ :=
 ⟨fun h => (by cases h), fun _ => ⟨ha, rfl, rfl, by simp, hc.1, hc.2, trivial⟩, fun k hk => by
  simp only [List.mem_cons, List.not_mem_nil, or_false] at hk
  rcases hk with rfl | rfl
  ·exact hi
  ·exact hj, ⟨hij, trivial⟩⟩
theorem t1_canon (d : Decision) : (t1 d).Canon limL where
 ok := ⟨fun x hx => by
  match x, hx with
  | 0, _ => exact fine_leaf (show 0 < 1 by decide), by simp [t1], by simp [t1]⟩
 pos := by show 0 < 1; decide
 walk := by rfl
 leaf x hx _ := by
  match x, hx with
  | 0, _ => rfl
 all := by rfl
theorem t3_canon {d0 d1 : Decision} (h : d0 ≠ d1) : (t3 d0 d1).Canon limL where
 ok := ⟨fun x hx => by
  match x, hx with
  | 0, _ => exact fine_two (by decide) (by decide) (by decide) ⟨by show 1 < 3; decide, by show 2 < 10; decide⟩ ⟨by show 2 < 3; decide, by show 2 < 10; decide⟩
  | 1, _ => exact fine_leaf (show 0 < 2 by decide)
  | 2, _ => exact fine_leaf (show 1 < 2 by decide), by simp [t3], by simp [t3, h]⟩
 pos := by show 0 < 3; decide
 walk := by rfl
 leaf x hx hk := by
  match x, hx with
  | 0, _ => cases hk
  | 1, _ => rfl
  | 2, _ => rfl
 all := by rfl
theorem t5_canon {d0 d1 d2 : Decision} (h1 : d0 ≠ d1) (h2 : d0 ≠ d2) (h3 : d1 ≠ d2) : (t5 d0 d1 d2).Canon limL where
 ok := ⟨fun x hx => by
  match x, hx with
  | 0, _ => exact fine_two (by decide) (by decide) (by decide) ⟨by show 1 < 5; decide, by show 1 < 10; decide⟩ ⟨by show 2 < 5; decide, by show 1 < 2; decide⟩
  | 1, _ => exact fine_leaf (show 0 < 3 by decide)
  | 2, _ => exact fine_two (by decide) (by decide) (by decide) ⟨by show 3 < 5; decide, by show 2 < 10; decide⟩ ⟨by show 4 < 5; decide, by show 2 < 10; decide⟩
  | 3, _ => exact fine_leaf (show 1 < 3 by decide)
  | 4, _ => exact fine_leaf (show 2 < 3 by decide), by simp [t5], by simp [t5, h1, h2, h3]⟩
 pos := by show 0 < 5; decide
 walk := by rfl
 leaf x hx hk := by
  match x, hx with
  | 0, _ => cases hk
  | 1, _ => rfl
  | 2, _ => cases hk
  | 3, _ => rfl
  | 4, _ => rfl
 all := by rfl
theorem t3_val (d0 d1 : Decision) (g : Fa) : (t3 d0 d1).val g 0 = if 1 ≤ g 2 then d1 else d0 := by
 by_cases h : 1 ≤ g 2
 ·rw [if_pos h]; simp [Tab.val, Tab.valN, Tab.nd, t3, kidx, h]
 ·rw [if_neg h]; simp [Tab.val, Tab.valN, Tab.nd, t3, kidx, h]
theorem t5_val (d0 d1 d2 : Decision) (g : Fa) : (t5 d0 d1 d2).val g 0 = if 18 ≤ g 1 then (if 1 ≤ g 2 then d2 else d1) else d0 := by
 by_cases h : 18 ≤ g 1
 ·by_cases h' : 1 ≤ g 2
  ·rw [if_pos h, if_pos h']; simp [Tab.val, Tab.valN, Tab.nd, t5, kidx, h, h']
  ·rw [if_pos h, if_neg h']; simp [Tab.val, Tab.valN, Tab.nd, t5, kidx, h, h']
 ·rw [if_neg h]; simp [Tab.val, Tab.valN, Tab.nd, t5, kidx, h]
def jd (l : List (Bool × Rule)) : Decision := finJ (l.foldl (fun (s : JS × Nat) x => (if x.1 then note s.1 s.2 x.2 else s.1, s.2 + 1)) (J0, 0)).1
theorem decS_jd (p : Policy) (f : A10 Int) : decS p f = jd (p.Rules.map fun r => (holds r f, r)) := by
 unfold decS jd
 rw [List.foldl_map]
 rfl
theorem inZ_put {g : Fa} (hg : limL.In g) {a : Nat} (ha : a < 10) (r : Range) : inZ (limZ.put a r) (toA g) = decide (r.Lo ≤ g a ∧ g a ≤ r.Hi) := by
 rw [Bool.eq_iff_iff, inZ_iff, decide_eq_true_eq]
 constructor
 ·intro h
  have := h a ha
  rwa [A10.get_put _ _ _ _ ha ha, if_pos rfl, toA_get g a ha] at this
 ·intro h i hi
  rw [A10.get_put _ _ _ _ ha hi, toA_get g i hi]
  split
  ·rename_i e; subst e; exact h
  ·exact hg i hi
theorem inZ_lim {g : Fa} (hg : limL.In g) : inZ limZ (toA g) = true := by
 rw [inZ_iff]; intro i hi; rw [toA_get g i hi]; exact hg i hi
def rl (kind : Int) (name : ByteArray) (n : Int) (z : A10 Range) : Rule := ⟨kind, name, [z], n, ⟨0, 1⟩, ⟨0, 1⟩⟩
theorem rule_eq (kind : Int) (name : ByteArray) (n : Int) (z : A10 Range) : law14_rule_g kind name n z = some (rl kind name n z) := rfl
theorem holds_rl (kind : Int) (name : ByteArray) (n : Int) (z : A10 Range) (f : A10 Int) : holds (rl kind name n z) f = inZ z f := by simp [holds, rl]
theorem all_eq {a : Nat} (ha : a < 10) (r : Range) : law14_all_g (a : Int) r = some (limZ.put a r) := by
 unfold law14_all_g; simp only [Limits_eq, Option.bind_some, pixG_some ha]
theorem Ints_eq (a b : List Int) (ha : a.length ≤ 1000000000) : ref11_Ints_g a b = some (decide (a = b)) := by
 unfold ref11_Ints_g
 simp only [io_eqi, io_len, io_not]
 by_cases hl : a.length = b.length
 ·have hl' : ((a.length : Nat) : Int) = ((b.length : Nat) : Int) := by omega
  rw [decide_eq_true hl', Bool.not_true, cond_false]
  rw [loop_all (step := ref11_Ints_l2 a b) a.length (fun k => decide (a[k]? ≠ b[k]?)) (.inr false) (.inl ()) (fun k hk => by
   have h1 : a[k]? = some a[k] := by simp [hk]
   have h2 : b[k]? = some (b[k]'(by omega)) := by rw [List.getElem?_eq_getElem]
   generalize a[k] = x at h1
   generalize b[k]'(by omega) = y at h2
   have hlt : (k : Int) < a.length := by omega
   simp only [ref11_Ints_l2, io_lt, io_len, hlt, decide_true, cond_true, idxG_some h1, idxG_some h2, Option.bind_some, io_eqi, io_not, io_add, wr_up (k := k) (by omega), h1, h2]
   by_cases h : x = y
   ·simp [h]
   ·simp [h]) (by simp [ref11_Ints_l2, io_lt, io_len])]
  by_cases he : a = b
  ·subst he
   rw [if_neg (by simp)]; simp [orR]
  ·rw [if_pos]
   ·simp [orR, he]
   ·rw [List.any_eq_true]
    refine Classical.byContradiction fun hno => he (List.ext_getElem? fun i => ?_)
    by_cases hi : i < a.length
    ·refine Classical.byContradiction fun hne => hno ⟨i, List.mem_range.2 hi, by simpa using hne⟩
    ·rw [List.getElem?_eq_none (by omega), List.getElem?_eq_none (by omega)]
 ·have hl' : ¬ ((a.length : Nat) : Int) = ((b.length : Nat) : Int) := by omega
  rw [decide_eq_false hl', Bool.not_false, cond_true]
  have : a ≠ b := fun e => hl (by rw [e])
  simp [this]
theorem Equal_eq (a b : Node) (h1 : a.Cuts.length ≤ 1000000000) (h2 : a.Kids.length ≤ 1000000000) : ref14_Equal_g a b = some (decide (a = b)) := by
 obtain ⟨a1, a2, a3, a4⟩ := a
 obtain ⟨b1, b2, b3, b4⟩ := b
 unfold ref14_Equal_g
 simp only [io_eqi, Ints_eq _ _ h1, Ints_eq _ _ h2, Option.bind_some, Node.mk.injEq]
 by_cases e1 : a1 = b1 <;> by_cases e2 : a2 = b2 <;> by_cases e3 : a3 = b3 <;> by_cases e4 : a4 = b4 <;> simp [e1, e2, e3, e4]
def nA : ByteArray := ⟨#[97]⟩
def nP : ByteArray := ⟨#[112]⟩
def nD : ByteArray := ⟨#[100]⟩
def rA : Rule := rl 1 nA 0 limZ
def rA2 : Rule := rl 1 nA 0 (limZ.put 2 ⟨1, 1⟩)
def rP : Rule := rl 3 nP 100 limZ
def rD : Rule := rl 2 nD 0 (limZ.put 1 ⟨0, 17⟩)
theorem v0 : validB ⟨[]⟩ = true := by decide +kernel
theorem v1 : validB ⟨[rA, rP]⟩ = true := by decide +kernel
theorem v2 : validB ⟨[rA2, rP]⟩ = true := by decide +kernel
theorem v3 : validB ⟨[rA2, rP, rD]⟩ = true := by decide +kernel
theorem v4 : validB ⟨[⟨0, ⟨#[]⟩, [], 0, ⟨0, 0⟩, ⟨0, 0⟩⟩]⟩ = false := by decide +kernel
def dP : Decision := jd [(true, rA), (true, rP)]
def dA : Decision := jd [(false, rA2), (true, rP)]
def dB : Decision := jd [(true, rA2), (true, rP)]
theorem b0 : builtT ⟨[]⟩ = t1 (jd []) := builtT_is (t1_canon _) fun g hg => by rw [decS_jd]; rfl
theorem b1 : builtT ⟨[rA, rP]⟩ = t1 dP := builtT_is (t1_canon _) fun g hg => by
 rw [decS_jd]
 simp only [List.map_cons, List.map_nil, rA, rP, holds_rl, inZ_lim hg]
 rfl
theorem b2 : builtT ⟨[rA2, rP]⟩ = t3 dA dB := builtT_is (t3_canon (by decide +kernel)) fun g hg => by
 rw [decS_jd, t3_val]
 simp only [List.map_cons, List.map_nil, rA2, rP, holds_rl, inZ_lim hg, inZ_put hg (show 2 < 10 by decide)]
 have := (hg 2 (by decide)).2
 have e : limL.hi 2 = 1 := rfl
 by_cases h : 1 ≤ g 2
 ·rw [if_pos h, decide_eq_true ⟨h, by omega⟩]; rfl
 ·rw [if_neg h, decide_eq_false (by omega)]; rfl
def dC : Decision := jd [(true, rA2), (true, rP), (true, rD)]
def dE : Decision := jd [(false, rA2), (true, rP), (false, rD)]
def dF : Decision := jd [(true, rA2), (true, rP), (false, rD)]
theorem b3 : builtT ⟨[rA2, rP, rD]⟩ = t5 dC dE dF := builtT_is (t5_canon (by decide +kernel) (by decide +kernel) (by decide +kernel)) fun g hg => by
 rw [decS_jd, t5_val]
 simp only [List.map_cons, List.map_nil, rA2, rP, rD, holds_rl, inZ_lim hg, inZ_put hg (show 2 < 10 by decide), inZ_put hg (show 1 < 10 by decide)]
 have h2 := (hg 2 (by decide)).2
 have h1 := (hg 1 (by decide)).1
 have e : limL.hi 2 = 1 := rfl
 have e' : limL.lo 1 = 0 := rfl
 by_cases h : 18 ≤ g 1
 ·rw [if_pos h, decide_eq_false (p := 0 ≤ g 1 ∧ g 1 ≤ 17) (by omega)]
  by_cases h' : 1 ≤ g 2
  ·rw [if_pos h', decide_eq_true (p := 1 ≤ g 2 ∧ g 2 ≤ 1) ⟨h', by omega⟩]; rfl
  ·rw [if_neg h', decide_eq_false (p := 1 ≤ g 2 ∧ g 2 ≤ 1) (by omega)]; rfl
 ·rw [if_neg h, decide_eq_true (p := 0 ≤ g 1 ∧ g 1 ≤ 17) ⟨by omega, by omega⟩]
  by_cases h' : 1 ≤ g 2
  ·rw [decide_eq_true (p := 1 ≤ g 2 ∧ g 2 ≤ 1) ⟨h', by omega⟩]; rfl
  ·rw [decide_eq_false (p := 1 ≤ g 2 ∧ g 2 ≤ 1) (by omega)]; rfl
theorem PG0 {l : List Rule} (hv : validB ⟨l⟩ = true) (h : (zonesOf ⟨l⟩).length ≤ 10) : PG ⟨l⟩ := PG_few hv h
theorem g0 : PG ⟨[]⟩ := PG0 v0 (by decide)
theorem g1 : PG ⟨[rA, rP]⟩ := PG0 v1 (by show 2 ≤ 10; decide)
theorem g2 : PG ⟨[rA2, rP]⟩ := PG0 v2 (by show 2 ≤ 10; decide)
theorem g3 : PG ⟨[rA2, rP, rD]⟩ := PG0 v3 (by show 3 ≤ 10; decide)
theorem empty_Valid : table_Valid_g ⟨[], []⟩ = some false := by
 unfold table_Valid_g
 simp only [io_lt, io_len, List.length_nil, Int.natCast_zero]
 rfl
theorem head_eq : law14_head_g = some true := by
 have e0 := Build_eq g0 v0
 have e1 := Build_eq g1 v1
 have e2 := Build_eq g2 v2
 have e3 := Build_eq g3 v3
 have e4 := Build_bad v4
 have k2 := built_Lookup g2 (A10.mk 0 0 0 0 0 0 0 0 0 0)
 have k3 := built_Lookup g3 (A10.mk 0 30 1 0 0 0 0 0 1 0)
 have k4 := built_Valid g3
 rw [b0] at e0
 rw [b1] at e1
 rw [b2] at e2 k2
 rw [b3] at e3 k3 k4
 rw [t3_val] at k2
 rw [t5_val] at k3
 have i1 : io.eq ((0 : Int)) 0 = true := by rw [io_eqi]; rfl
 have i2 : io.eq ((1 : Int)) 1 = true := by rw [io_eqi]; rfl
 have a2 : law14_all_g 2 (Range.mk 1 1) = some (limZ.put 2 ⟨1, 1⟩) := all_eq (a := 2) (by decide) _
 have a1 : law14_all_g 1 (Range.mk 0 17) = some (limZ.put 1 ⟨0, 17⟩) := all_eq (a := 1) (by decide) _
 have q1 : rl 1 (⟨#[97]⟩) 0 (limZ.put 2 ⟨1, 1⟩) = rA2 := rfl
 have q2 : rl 3 (⟨#[112]⟩) 100 limZ = rP := rfl
 have q3 : rl 2 (⟨#[100]⟩) 0 (limZ.put 1 ⟨0, 17⟩) = rD := rfl
 have q4 : rl 1 (⟨#[97]⟩) 0 limZ = rA := rfl
 have x0 : idxG (tabE (t1 (jd []))).Leaves 0 = some (jd []) := rfl
 have x1 : idxG (tabE (t1 dP)).Leaves 0 = some dP := rfl
 have x2 : idxG (tabE (t3 dA dB)).Nodes 0 = some (Node.mk 2 [1] [1, 2] 0) := rfl
 have x3 : idxG (tabE (t5 dC dE dF)).Nodes 0 = some (Node.mk 1 [18] [1, 2] 0) := rfl
 have y0 : (jd []).Allowed = false := rfl
 have y1 : dP.Allowed = true := rfl
 have y2 : dP.Price = 100 := rfl
 have y3 : ((if (1 : Int) ≤ toF (A10.mk 0 0 0 0 0 0 0 0 0 0) 2 then dB else dA)).Allowed = false := rfl
 have y4 : ((if (18 : Int) ≤ toF (A10.mk 0 30 1 0 0 0 0 0 1 0) 1 then (if (1 : Int) ≤ toF (A10.mk 0 30 1 0 0 0 0 0 1 0) 2 then dF else dE) else dC)).Allowed = true := rfl
 have n0 : ((tabE (t1 (jd []))).Nodes.length : Int) = 1 := rfl
 have n1 : ((tabE (t1 dP)).Nodes.length : Int) = 1 := rfl
 have n2 : ((tabE (t3 dA dB)).Nodes.length : Int) = 3 := rfl
 have n3 : ((tabE (t5 dC dE dF)).Nodes.length : Int) = 5 := rfl
 have q2' := Equal_eq (Node.mk 2 [1] [1, 2] 0) (Node.mk 2 [1] [1, 2] 0) (by simp) (by simp)
 have q3' := Equal_eq (Node.mk 1 [18] [1, 2] 0) (Node.mk 1 [18] [1, 2] 0) (by simp) (by simp)
 unfold law14_head_g
 simp only [Limits_eq, Option.bind_some, a1, a2, rule_eq, q1, q2, q3, q4, e0, e1, e2, e3, e4, io_eqi, io_len, n0, n1, n2, n3, decide_true, Bool.not_true, cond_false, x0, x1, x2, x3, y0, y1, y2, Bool.not_false, cond_true, io_not, q2', q3', k2, k3, k4, y3, y4, empty_Valid]
end Go.SX.Td
