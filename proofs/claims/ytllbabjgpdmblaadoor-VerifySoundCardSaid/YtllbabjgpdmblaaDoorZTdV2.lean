/- Parts of the proof. -/
import Derived.Test.YtllbabjgpdmblaaDoorZTdV1
import Derived.Test.YtllbabjgpdmblaaDoorZTbV
import Derived.Test.YtllbabjgpdmblaaDoorZTdKey
import Derived.Test.YtllbabjgpdmblaaDoorZTdCompact
import Derived.Test.YtllbabjgpdmblaaDoorZTdQ3
import Derived.Test.YtllbabjgpdmblaaDoorZTdP2
set_option linter.unusedSimpArgs false
set_option linter.unusedVariables false
set_option linter.unusedSectionVars false
namespace Go.SX.Td
open Go Go.SX Tb
def pairsFrom : Nat → List Rule → List Live
 | _, [] => []
 | i, r :: l => (List.range r.Zones.length).map (fun k : Nat => Live.mk (i : Int) (k : Int)) ++ pairsFrom (i + 1) l
theorem pairs_len : ∀ (i : Nat) (l : List Rule), (pairsFrom i l).length = (l.flatMap (·.Zones)).length
 | _, [] => rfl
 | i, r :: l => by
  have := pairs_len (i + 1) l
  simp only [pairsFrom, List.flatMap_cons, List.length_append, List.length_map, List.length_range, this]
theorem pairs_get : ∀ (l : List Rule) (i z : Nat) (zn : A10 Range), (l.flatMap (·.Zones))[z]? = some zn →
  ∃ (a k : Nat) (r : Rule), (pairsFrom i l)[z]? = some ⟨((i + a : Nat) : Int), (k : Int)⟩ ∧ l[a]? = some r ∧ r.Zones[k]? = some zn
 | [], _, _, _, h => by simp at h
 | r :: l, i, z, zn, h => by
  rw [List.flatMap_cons] at h
  by_cases hz : z < r.Zones.length
  ·rw [List.getElem?_append_left hz] at h
   refine ⟨0, z, r, ?_, rfl, h⟩
   simp only [pairsFrom]
   rw [List.getElem?_append_left (by simpa using hz)]
   simp [hz]
  ·rw [List.getElem?_append_right (by omega)] at h
   obtain ⟨a, k, r', h1, h2, h3⟩ := pairs_get l (i + 1) (z - r.Zones.length) zn h
   refine ⟨a + 1, k, r', ?_, by simpa using h2, h3⟩
   simp only [pairsFrom]
   rw [List.getElem?_append_right (by simp; omega)]
   rw [show i + (a + 1) = i + 1 + a by omega]
   simpa using h1
theorem pairs_ge : ∀ (l : List Rule) (i : Nat), ∀ x ∈ pairsFrom i l, (i : Int) ≤ x.rule
 | [], _, x, h => by simp [pairsFrom] at h
 | r :: l, i, x, h => by
  simp only [pairsFrom, List.mem_append, List.mem_map, List.mem_range] at h
  rcases h with ⟨k, _, rfl⟩ | h
  ·exact Int.le_refl _
  ·have := pairs_ge l (i + 1) x h; omega
theorem pairs_nodup : ∀ (l : List Rule) (i : Nat), (pairsFrom i l).Nodup
 | [], _ => by simp [pairsFrom]
 | r :: l, i => by
  simp only [pairsFrom]
  rw [List.nodup_append]
  refine ⟨?_, pairs_nodup l (i + 1), fun a ha b hb e => ?_⟩
  ·rw [List.nodup_iff_pairwise_ne, List.pairwise_map]
   exact List.Pairwise.imp (fun {a b} h e => by simp only [Live.mk.injEq, true_and] at e; omega) (List.nodup_iff_pairwise_ne.1 List.nodup_range)
  ·subst e
   simp only [List.mem_map, List.mem_range] at ha
   obtain ⟨k, _, rfl⟩ := ha
   have := pairs_ge l (i + 1) _ hb
   simp only at this; omega
def lv (p : Policy) (z : Nat) : Live := (pairsFrom 0 p.Rules).getD z default
def pz (p : Policy) (l : List Nat) : List Live := l.map (lv p)
theorem lv_get {p : Policy} {z : Nat} (hz : z < (zonesOf p).length) : ∃ (a k : Nat) (r : Rule) (zn : A10 Range), lv p z = ⟨(a : Int), (k : Int)⟩ ∧ p.Rules[a]? = some r ∧ r.Zones[k]? = some zn ∧ (zonesOf p)[z]? = some zn := by
 have h : (zonesOf p)[z]? = some (zonesOf p)[z] := by simp [hz]
 obtain ⟨a, k, r, h1, h2, h3⟩ := pairs_get p.Rules 0 z _ h
 refine ⟨a, k, r, _, ?_, h2, h3, h⟩
 unfold lv
 rw [List.getD_eq_getElem?_getD, h1]
 simp
theorem lv_inj {p : Policy} {z z' : Nat} (hz : z < (zonesOf p).length) (hz' : z' < (zonesOf p).length) (h : lv p z = lv p z') : z = z' := by
 have hl : (pairsFrom 0 p.Rules).length = (zonesOf p).length := pairs_len 0 _
 unfold lv at h
 rw [List.getD_eq_getElem?_getD, List.getD_eq_getElem?_getD, List.getElem?_eq_getElem (by omega), List.getElem?_eq_getElem (by omega)] at h
 exact nodup_inj (pairs_nodup _ _) (by omega) (by omega) h
theorem pz_inj {p : Policy} : ∀ {l m : List Nat}, (∀ z ∈ l, z < (zonesOf p).length) → (∀ z ∈ m, z < (zonesOf p).length) → pz p l = pz p m → l = m
 | [], [], _, _, _ => rfl
 | [], _ :: _, _, _, h => by simp [pz] at h
 | _ :: _, [], _, _, h => by simp [pz] at h
 | a :: l, b :: m, h1, h2, h => by
  simp only [pz, List.map_cons, List.cons.injEq] at h
  rw [lv_inj (h1 a (by simp)) (h2 b (by simp)) h.1, pz_inj (l := l) (m := m) (fun z hz => h1 z (List.mem_cons_of_mem _ hz)) (fun z hz => h2 z (List.mem_cons_of_mem _ hz)) h.2]
theorem pz_get {p : Policy} {l : List Nat} {k z : Nat} (h : l[k]? = some z) : (pz p l)[k]? = some (lv p z) := by simp [pz, h]
theorem pz_len (p : Policy) (l : List Nat) : (pz p l).length = l.length := by simp [pz]
theorem txtP_inj {x y : Live} {r s : List UInt8} (h : txtP x ++ r = txtP y ++ s) : x = y ∧ r = s := by
 simp only [txtP, List.append_assoc, List.singleton_append, List.cons_append, List.nil_append] at h
 obtain ⟨h1, h2⟩ := sep_inj (fun e => (itoa_char x.rule _ e).2.2 rfl) (fun e => (itoa_char y.rule _ e).2.2 rfl) h
 obtain ⟨h3, h4⟩ := sep_inj (fun e => (itoa_char x.zone _ e).1 rfl) (fun e => (itoa_char y.zone _ e).1 rfl) h2
 obtain ⟨a, b⟩ := x
 obtain ⟨c, d⟩ := y
 exact ⟨by rw [show a = c from itoa_inj h1, show b = d from itoa_inj h3], h4⟩
theorem txtZ_inj : ∀ {l m : List Live}, txtZ l = txtZ m → l = m
 | [], [], _ => rfl
 | [], y :: m, h => by have := congrArg List.length h; simp [txtZ, txtP] at this
 | x :: l, [], h => by have := congrArg List.length h; simp [txtZ, txtP] at this
 | x :: l, y :: m, h => by
  simp only [txtZ, List.flatMap_cons] at h
  obtain ⟨rfl, h2⟩ := txtP_inj h
  rw [txtZ_inj (l := l) (m := m) h2]
def keyS (a x : Nat) (l : List Live) : ByteArray := ⟨(txtZ (Live.mk (a : Int) (x : Int) :: l)).toArray⟩
theorem keyS_inj {a a' x x' : Nat} {l l' : List Live} (h : keyS a x l = keyS a' x' l') : a = a' ∧ x = x' ∧ l = l' := by
 have := congrArg (fun s : ByteArray => s.data.toList) h
 simp only [keyS] at this
 have h2 := txtZ_inj (by simpa using this)
 simp only [List.cons.injEq, Live.mk.injEq] at h2
 exact ⟨by omega, by omega, h2.2⟩
theorem txtZ_le : ∀ (l : List Live), (∀ x ∈ l, IntOk x.rule ∧ IntOk x.zone) → (txtZ l).length ≤ 50 * l.length
 | [], _ => by simp [txtZ]
 | x :: l, h => by
  have h1 := txtZ_le l fun y hy => h y (List.mem_cons_of_mem _ hy)
  have h2 := Lib.itoa_length_le x.rule (h x (by simp)).1.1 (h x (by simp)).1.2
  have h3 := Lib.itoa_length_le x.zone (h x (by simp)).2.1 (h x (by simp)).2.2
  have e : txtZ (x :: l) = txtP x ++ txtZ l := by simp [txtZ]
  rw [e, List.length_append, List.length_cons]
  simp only [txtP, List.length_append, List.length_singleton]
  omega
section
variable {p : Policy} (G : PG p) (hR : p.Rules.length ≤ 1000) (hZ : ∀ r ∈ p.Rules, r.Zones.length ≤ 1000)
include G hR hZ
theorem lv_ok {z : Nat} (hz : z < (zonesOf p).length) : IntOk (lv p z).rule ∧ IntOk (lv p z).zone := by
 obtain ⟨a, k, r, zn, h1, h2, h3, -⟩ := lv_get hz
 rw [h1]
 have ha := (List.getElem?_eq_some_iff.1 h2).1
 have hk := (List.getElem?_eq_some_iff.1 h3).1
 have := hZ r (List.mem_of_getElem? h2)
 exact ⟨⟨by show -9223372036854775808 ≤ (a : Int); omega, by show (a : Int) ≤ _; omega⟩, ⟨by show -9223372036854775808 ≤ (k : Int); omega, by show (k : Int) ≤ _; omega⟩⟩
theorem key_eq {a x : Nat} {l : List Nat} (ha : a ≤ 10) (hx : x ≤ 20000) (hl : ∀ z ∈ l, z < (zonesOf p).length) (hn : l.length ≤ 1000) : verify_key_g (a : Int) (x : Int) (pz p l) = some (keyS a x (pz p l)) := by
 have h1 : ∀ y ∈ pz p l, IntOk y.rule ∧ IntOk y.zone := fun y hy => by
  simp only [pz, List.mem_map] at hy
  obtain ⟨z, hz, rfl⟩ := hy
  exact lv_ok G hR hZ (hl z hz)
 have i1 : IntOk (a : Int) := ⟨by omega, by omega⟩
 have i2 : IntOk (x : Int) := ⟨by omega, by omega⟩
 have h2 := txtZ_le (Live.mk (a : Int) (x : Int) :: pz p l) fun y hy => by
  rcases List.mem_cons.1 hy with rfl | hy
  ·exact ⟨i1, i2⟩
  ·exact h1 y hy
 rw [List.length_cons, pz_len] at h2
 unfold verify_key_g
 rw [if_pos ⟨i1, i2, h1, by omega, by rw [pz_len]; omega⟩]
 rfl
omit hR hZ in
theorem zone_of {z a : Nat} (hz : z < (zonesOf p).length) (ha : a < 10) : ∃ (i k : Nat) (r : Rule) (zn : A10 Range), (lv p z).rule = (i : Int) ∧ (lv p z).zone = (k : Int) ∧ p.Rules[i]? = some r ∧ r.Zones[k]? = some zn ∧
  (zn.get a).Lo = zlo (zonesOf p) z a ∧ (zn.get a).Hi = zhi (zonesOf p) z a ∧ 0 ≤ zlo (zonesOf p) z a ∧ zhi (zonesOf p) z a ≤ 1000000000 := by
 obtain ⟨i, k, r, zn, h1, h2, h3, h4⟩ := lv_get hz
 have := G.zok.get hz ha
 exact ⟨i, k, r, zn, by rw [h1], by rw [h1], h2, h3, by simp [zlo, h4], by simp [zhi, h4], this.1, this.2.2⟩
omit hR hZ in
theorem vals_loop {a : Nat} (ha : a < 10) {live : List Nat} (hl : ∀ z ∈ live, z < (zonesOf p).length) (hn : live.length ≤ 1000000) :
  whileG (tvals_l2 (pz p live) p.Rules (a : Int) limZ) ([(limZ.get a).Lo], 0) = some (startsL (zonesOf p) a live) := by
 have e3 : limL.lo a = (limZ.get a).Lo := rfl
 have e4 : limL.hi a = (limZ.get a).Hi := rfl
 refine loop_fold (step := tvals_l2 (pz p live) p.Rules (a : Int) limZ) (fun s i => (s, i)) (ints live) (stStep (zonesOf p) a) [(limZ.get a).Lo] _ (fun k x hx => ?_) (by simp [tvals_l2, io_lt, io_len, ints_len, pz_len]; rfl)
 have hk : k < (ints live).length := (List.getElem?_eq_some_iff.1 hx).1
 have hka : k < live.length := by rwa [ints_len] at hk
 obtain ⟨i, hi, rfl⟩ : ∃ i, live[k]? = some i ∧ x = (i : Int) := ⟨live[k], by simp [hka], by
  rw [ints_get (i := live[k]) (by simp [hka])] at hx; exact (Option.some.inj hx).symm⟩
 have hlt : (k : Int) < (pz p live).length := by rw [pz_len]; omega
 obtain ⟨q, j, r, zn, g1, g2, g3, g4, g5, g6, g7, g8⟩ := zone_of G (hl i (List.mem_of_getElem? hi)) ha
 have hsl := stStep_len (zonesOf p) a ((ints live).take k) [(limZ.get a).Lo]
 have hkl : ((ints live).take k).length ≤ 1000000 := by rw [List.length_take, ints_len]; omega
 generalize ((ints live).take k).foldl (stStep (zonesOf p) a) [(limZ.get a).Lo] = s at hsl
 simp only [List.length_singleton] at hsl
 have hlk := pz_get (p := p) hi
 generalize lv p i = x at hlk g1 g2
 have i1 : idxG p.Rules x.rule = some r := by rw [g1]; exact idxG_some g3
 have i2 : idxG r.Zones x.zone = some zn := by rw [g2]; exact idxG_some g4
 have hw : IntKind.i64.wrap (zhi (zonesOf p) i a + 1) = zhi (zonesOf p) i a + 1 := wr64 (by have := G.zok.get (hl i (List.mem_of_getElem? hi)) ha; omega) (by omega)
 have hap : ∀ (s : List Int) c, s.length ≤ 100000000 → appG s [c] = some (s ++ [c]) := fun s c h => appG_some (by simp; omega)
 have h1 := put1_len a s (zlo (zonesOf p) i a)
 simp only [tvals_l2, io_lt, io_le, io_len, hlt, decide_true, cond_true, idxG_some hlk, i1, i2, pixG_some ha, Option.bind_some, io_add, wr_up (k := k) (by omega), g5, g6, hw, stStep, Int.toNat_natCast]
 unfold put1
 rw [e3, e4]
 by_cases h1 : (limZ.get a).Lo < zlo (zonesOf p) i a
 ·by_cases h2 : zlo (zonesOf p) i a ≤ (limZ.get a).Hi
  ·by_cases h3 : (limZ.get a).Lo < zhi (zonesOf p) i a + 1
   ·by_cases h4 : zhi (zonesOf p) i a + 1 ≤ (limZ.get a).Hi
    ·simp [h1, h2, h3, h4, hap s _ (by omega), hap (s ++ [_]) _ (by simp; omega)]
    ·simp [h1, h2, h3, h4, hap s _ (by omega)]
   ·simp [h1, h2, h3, hap s _ (by omega)]
  ·by_cases h3 : (limZ.get a).Lo < zhi (zonesOf p) i a + 1
   ·by_cases h4 : zhi (zonesOf p) i a + 1 ≤ (limZ.get a).Hi
    ·simp [h1, h2, h3, h4, hap s _ (by omega)]
    ·simp [h1, h2, h3, h4]
   ·simp [h1, h2, h3]
 ·by_cases h3 : (limZ.get a).Lo < zhi (zonesOf p) i a + 1
  ·by_cases h4 : zhi (zonesOf p) i a + 1 ≤ (limZ.get a).Hi
   ·simp [h1, h3, h4, hap s _ (by omega)]
   ·simp [h1, h3, h4]
  ·simp [h1, h3]
end
theorem put1_all_len (a : Nat) : ∀ (l : List Int) (s : List Int), (l.foldl (put1 a) s).length ≤ s.length + l.length
 | [], s => by simp
 | c :: l, s => by
  have := put1_all_len a l (put1 a s c)
  have h1 := put1_len a s c
  rw [List.foldl_cons, List.length_cons]; omega
theorem mem_put1_all (a : Nat) (x : Int) : ∀ (l : List Int) (s : List Int), x ∈ l.foldl (put1 a) s ↔ x ∈ s ∨ x ∈ l ∧ limL.lo a < x ∧ x ≤ limL.hi a
 | [], s => by simp
 | c :: l, s => by
  rw [List.foldl_cons, mem_put1_all a x l, mem_put1]
  simp only [List.mem_cons]
  constructor
  ·rintro ((h | ⟨rfl, h⟩) | ⟨h1, h2⟩)
   ·exact .inl h
   ·exact .inr ⟨.inl rfl, h⟩
   ·exact .inr ⟨.inr h1, h2⟩
  ·rintro (h | ⟨rfl | h1, h2⟩)
   ·exact .inl (.inl h)
   ·exact .inl (.inr ⟨rfl, h2⟩)
   ·exact .inr ⟨h1, h2⟩
theorem cutv_loop (N : Node) {a : Nat} (ha : a < 10) (s : List Int) (hC : N.Cuts.length ≤ 1000000) (hs : s.length ≤ 10000000) : whileG (tvals_l4 N (a : Int) limZ) (s, 0) = some (N.Cuts.foldl (put1 a) s) := by
 have e3 : limL.lo a = (limZ.get a).Lo := rfl
 have e4 : limL.hi a = (limZ.get a).Hi := rfl
 refine loop_fold (step := tvals_l4 N (a : Int) limZ) (fun s i => (s, i)) N.Cuts (put1 a) s _ (fun k x hx => ?_) (by simp [tvals_l4, io_lt, io_len])
 have hk : k < N.Cuts.length := (List.getElem?_eq_some_iff.1 hx).1
 have hlt : (k : Int) < N.Cuts.length := by omega
 have hsl := put1_all_len a (N.Cuts.take k) s
 have hkl : (N.Cuts.take k).length ≤ 1000000 := by rw [List.length_take]; omega
 generalize (N.Cuts.take k).foldl (put1 a) s = s' at hsl
 have hap : appG s' [x] = some (s' ++ [x]) := appG_some (by simp; omega)
 simp only [tvals_l4, io_lt, io_le, io_len, hlt, decide_true, cond_true, idxG_some hx, pixG_some ha, Option.bind_some, io_add, wr_up (k := k) (by omega), put1, e3, e4]
 by_cases h1 : (limZ.get a).Lo < x
 ·by_cases h2 : x ≤ (limZ.get a).Hi
  ·simp [h1, h2, hap]
  ·simp [h1, h2]
 ·simp [h1]
theorem tn_mem {t : Tab Decision} {i : Nat} (hi : i < t.ns.length) : t.nd i ∈ t.ns := by
 unfold Tab.nd; rw [List.getD_eq_getElem?_getD, List.getElem?_eq_getElem hi]; exact List.getElem_mem _
noncomputable def valsL (p : Policy) (t : Tab Decision) (a : Nat) (live : List Nat) (x : Nat) : List Int :=
 compL (sortL (if (t.nd x).kids ≠ [] ∧ (t.nd x).attr = a then (t.nd x).cuts.foldl (put1 a) (startsL (zonesOf p) a live) else startsL (zonesOf p) a live))
theorem inner_eq {t : Tab Decision} {x a : Nat} (hx : x < t.ns.length) :
  (Option.bind (idxG (tabE t).Nodes (x : Int)) fun x25 => bif decide ((0 : Int) < (x25.Kids.length : Int)) then (Option.bind (idxG (tabE t).Nodes (x : Int)) fun x26 => some (decide (x26.Attr = (a : Int)))) else some false) = some (decide ((t.nd x).kids ≠ [] ∧ (t.nd x).attr = a)) := by
 have hg : idxG (tabE t).Nodes (x : Int) = some (encN (t.nd x)) := idxG_some (encs_get hx)
 have hkl : ((encN (t.nd x)).Kids.length : Int) = ((t.nd x).kids.length : Nat) := by simp [encN, ints_len]
 have ha : (encN (t.nd x)).Attr = ((t.nd x).attr : Int) := rfl
 rw [hg]
 simp only [Option.bind_some, hkl, ha]
 by_cases h : (t.nd x).kids = []
 ·have h0 : ¬ (0 : Int) < ((t.nd x).kids.length : Nat) := by rw [h]; simp
  rw [decide_eq_false h0, cond_false]; simp [h]
 ·have h0 : (0 : Int) < ((t.nd x).kids.length : Nat) := by
   have : (t.nd x).kids.length ≠ 0 := by simpa using h
   omega
  rw [decide_eq_true h0, cond_true]
  congr 1
  rw [decide_eq_decide]
  exact ⟨fun e => ⟨h, by omega⟩, fun e => by omega⟩
theorem vals_eq {p : Policy} (G : PG p) {t : Tab Decision} (hb : ∀ n ∈ t.ns, Bd n) {a x : Nat} (ha : a < 10) (hx : x < t.ns.length) {live : List Nat} (hl : ∀ z ∈ live, z < (zonesOf p).length) (hn : live.length ≤ 1000) (f : A10 Int) (eq : List (ByteArray × Bool)) :
  tvals_b p.Rules (tabE t).Nodes (tabE t).Leaves limZ (a : Int) (pz p live) (x : Int) f eq = some (valsL p t a live x) := by
 have hg : idxG (tabE t).Nodes (x : Int) = some (encN (t.nd x)) := idxG_some (encs_get hx)
 have hbx := hb _ (tn_mem hx)
 have h1 := vals_loop G ha hl (by omega)
 have hsl := stStep_len (zonesOf p) a (ints live) [limL.lo a]
 rw [ints_len, List.length_singleton] at hsl
 have hsl' : (startsL (zonesOf p) a live).length ≤ 3000 := by unfold startsL; omega
 have hC : (encN (t.nd x)).Cuts = (t.nd x).cuts := rfl
 have h2 := cutv_loop (encN (t.nd x)) ha (startsL (zonesOf p) a live) (by rw [hC]; have := hbx.cuts; omega) (by omega)
 rw [hC] at h2
 have h3 := put1_all_len a (t.nd x).cuts (startsL (zonesOf p) a live)
 have hcc := hbx.cuts
 have hin := inner_eq (t := t) (x := x) (a := a) hx
 simp only [tvals_b, pixG_some ha, Option.bind_some, h1, io_lt, io_len, io_eqi]
 rw [hin]
 simp only [Option.bind_some]
 unfold valsL
 by_cases h : (t.nd x).kids ≠ [] ∧ (t.nd x).attr = a
 ·rw [decide_eq_true h, cond_true, if_pos h, hg]
  simp only [Option.bind_some, h2]
  generalize (t.nd x).cuts.foldl (put1 a) (startsL (zonesOf p) a live) = s at h3
  have hs2 : sortG s = some (sortL s) := by unfold sortG; rw [if_pos (by omega)]
  have hs3 : compG (sortL s) = some (compL (sortL s)) := by unfold compG; rw [if_pos (by rw [sortL_len]; omega)]
  simp only [hs2, hs3, Option.bind_some]
 ·rw [decide_eq_false h, cond_false, if_neg h]
  generalize startsL (zonesOf p) a live = s at hsl'
  have hs2 : sortG s = some (sortL s) := by unfold sortG; rw [if_pos (by omega)]
  have hs3 : compG (sortL s) = some (compL (sortL s)) := by unfold compG; rw [if_pos (by rw [sortL_len]; omega)]
  simp only [hs2, hs3, Option.bind_some]
theorem valsL_sorted (p : Policy) (t : Tab Decision) (a : Nat) (live : List Nat) (x : Nat) : (valsL p t a live x).Pairwise (· < ·) := compL_sorted (sortL_sorted _)
theorem mem_valsL {p : Policy} {t : Tab Decision} {a : Nat} {live : List Nat} {x : Nat} (c : Int) : c ∈ valsL p t a live x ↔ IsV limL (probOf p) t a live x c := by
 have hst : ∀ c, c ∈ startsL (zonesOf p) a live ↔ c = limL.lo a ∨ ∃ z ∈ live, (c = zlo (zonesOf p) z a ∨ c = zhi (zonesOf p) z a + 1) ∧ limL.lo a < c ∧ c ≤ limL.hi a := fun c => by
  have := @mem_starts (zonesOf p) a live c
  unfold starts at this
  rwa [mem_compL, mem_sortL] at this
 unfold valsL IsV
 rw [mem_compL, mem_sortL]
 have hlo : (probOf p).lo = zlo (zonesOf p) := rfl
 have hhi : (probOf p).hi = zhi (zonesOf p) := rfl
 rw [hlo, hhi]
 by_cases h : (t.nd x).kids ≠ [] ∧ (t.nd x).attr = a
 ·rw [if_pos h, mem_put1_all, hst]
  constructor
  ·rintro ((h1 | ⟨z, h1, h2, h3⟩) | ⟨h1, h2⟩)
   ·exact .inl h1
   ·exact .inr ⟨.inl ⟨z, h1, h2⟩, h3⟩
   ·exact .inr ⟨.inr ⟨h.1, h.2, h1⟩, h2⟩
  ·rintro (h1 | ⟨⟨z, h1, h2⟩ | ⟨_, _, h1⟩, h3⟩)
   ·exact .inl (.inl h1)
   ·exact .inl (.inr ⟨z, h1, h2, h3⟩)
   ·exact .inr ⟨h1, h3⟩
 ·rw [if_neg h, hst]
  constructor
  ·rintro (h1 | ⟨z, h1, h2, h3⟩)
   ·exact .inl h1
   ·exact .inr ⟨.inl ⟨z, h1, h2⟩, h3⟩
  ·rintro (h1 | ⟨⟨z, h1, h2⟩ | ⟨h4, h5, _⟩, h3⟩)
   ·exact .inl h1
   ·exact .inr ⟨z, h1, h2, h3⟩
   ·exact absurd ⟨h4, h5⟩ h
theorem valsL_len {p : Policy} {t : Tab Decision} (hb : ∀ n ∈ t.ns, Bd n) {a : Nat} {live : List Nat} {x : Nat} (hx : x < t.ns.length) (hn : live.length ≤ 1000) : (valsL p t a live x).length ≤ 200000 := by
 have hbx := (hb _ (tn_mem hx)).cuts
 have hsl := stStep_len (zonesOf p) a (ints live) [limL.lo a]
 rw [ints_len, List.length_singleton] at hsl
 have hsl' : (startsL (zonesOf p) a live).length ≤ 3000 := by unfold startsL; omega
 have h3 := put1_all_len a (t.nd x).cuts (startsL (zonesOf p) a live)
 unfold valsL
 refine Nat.le_trans (compL_len _) ?_
 rw [sortL_len]
 split <;> omega
theorem kidv_loop (N : Node) (v : Int) (hC : N.Cuts.length ≤ 100000) : whileG (tkid_l4 N v) 0 = some (if kidx N.Cuts v < N.Cuts.length then .inr ((kidx N.Cuts v : Nat) : Int) else .inl ()) := by
 obtain ⟨r, h1, rfl⟩ := loop_up (step := tkid_l4 N v) (fun (_ : Unit) i => i) N.Cuts.length
  (fun k _ => kidx N.Cuts v = k + kidx (N.Cuts.drop k) v) (fun r => r = if kidx N.Cuts v < N.Cuts.length then .inr ((kidx N.Cuts v : Nat) : Int) else .inl ()) (fun k s hk hI => by
  have hx : N.Cuts[k]? = some N.Cuts[k] := by simp [hk]
  rw [List.drop_eq_getElem_cons hk] at hI
  generalize N.Cuts[k] = x at hx hI
  have hlt : (k : Int) < N.Cuts.length := by omega
  simp only [tkid_l4, io_lt, io_len, hlt, decide_true, cond_true, idxG_some hx, Option.bind_some, io_add, wr_up (k := k) (by omega)]
  by_cases h : v < x
  ·simp only [kidx] at hI
   rw [if_neg (by omega)] at hI
   refine .inr ⟨.inr (k : Int), by rw [decide_eq_true h]; rfl, ?_⟩
   rw [hI, Nat.add_zero, if_pos hk]
  ·simp only [kidx] at hI
   rw [if_pos (by omega)] at hI
   exact .inl ⟨(), by rw [decide_eq_false h]; rfl, by omega⟩) (fun s hI => by
  have hlt : ¬ ((N.Cuts.length : Int) < N.Cuts.length) := by omega
  refine ⟨.inl (), by simp only [tkid_l4, io_lt, io_len, hlt, decide_false, cond_false], ?_⟩
  rw [if_neg]
  rw [List.drop_length] at hI
  simp only [kidx] at hI
  omega) () (by simp)
 exact h1
theorem kidv_eq {t : Tab Decision} (h : t.Ok limL) (hb : ∀ n ∈ t.ns, Bd n) (R : List Rule) {x : Nat} (hx : x < t.ns.length) (hk : (t.nd x).kids ≠ []) (v : Int) (f : A10 Int) (eq : List (ByteArray × Bool)) :
  tkid_b R (tabE t).Nodes (tabE t).Leaves limZ (x : Int) v f eq = some (((t.nd x).kids.getD (kidx (t.nd x).cuts v) 0 : Nat) : Int) := by
 have hg : idxG (tabE t).Nodes (x : Int) = some (encN (t.nd x)) := idxG_some (encs_get hx)
 have hbx := hb _ (tn_mem hx)
 obtain ⟨k1, -⟩ := kid_mem h hx hk v
 have hC : (encN (t.nd x)).Cuts = (t.nd x).cuts := rfl
 have hloop := kidv_loop (encN (t.nd x)) v (by rw [hC]; exact hbx.cuts)
 rw [hC] at hloop
 have hkx := kidx_le (t.nd x).cuts v
 generalize (t.nd x).kids.getD (kidx (t.nd x).cuts v) 0 = z at k1
 generalize hi : kidx (t.nd x).cuts v = i at k1 hkx hloop
 have hgk : idxG (encN (t.nd x)).Kids (i : Int) = some (z : Int) := idxG_some (ints_get k1)
 simp only [tkid_b, hg, Option.bind_some, hloop, io_lt, io_len, hC]
 by_cases hlt : i < (t.nd x).cuts.length
 ·have h1 : ¬ ((i : Int) < 0) := by omega
  simp only [if_pos hlt, orR, Option.bind_some, decide_eq_false h1, cond_false, hgk]
 ·have he : ((t.nd x).cuts.length : Int) = (i : Int) := by omega
  have h1 : ((-1 : Int) < 0) := by omega
  simp only [if_neg hlt, orR, Option.bind_some, decide_eq_true h1, cond_true, he, hgk]
end Go.SX.Td
namespace Go.SX.Td
open Go Go.SX Tb
section
variable (p : Policy) (t : Tab Decision)
noncomputable def liveOf (f : A10 Int) (a : Nat) : List Nat := (List.range (probOf p).nz).filter ((probOf p).Pre a (toF f))
abbrev EqvP (a : Nat) (l : List Nat) (x : Nat) : Prop := Eqv limL (probOf p) (decL p) t a l x
def MemoV (m : List (ByteArray × Bool)) : Prop :=
 ∀ (a x : Nat) (l : List Nat), a < 10 → x < t.ns.length → (∀ z ∈ l, z < (zonesOf p).length) → mlookD m (keyS a x (pz p l)) false = true → EqvP p t a l x
end
theorem liveOf_lt {p : Policy} {f : A10 Int} {a : Nat} : ∀ z ∈ liveOf p f a, z < (zonesOf p).length := fun z hz => by
 have := (List.mem_filter.1 hz).1
 simpa [probOf] using this
theorem liveOf_len (p : Policy) (f : A10 Int) (a : Nat) : (liveOf p f a).length ≤ (zonesOf p).length := by
 have := List.length_filter_le ((probOf p).Pre a (toF f)) (List.range (probOf p).nz)
 rw [List.length_range] at this
 exact this
theorem liveOf_zero (p : Policy) (f : A10 Int) : liveOf p f 0 = List.range (zonesOf p).length := by
 unfold liveOf
 exact (all_live p (toF f)).symm
theorem pre_congr {p : Policy} {f g : A10 Int} {a : Nat} (h : ∀ j, j < a → f.get j = g.get j) : liveOf p f a = liveOf p g a := by
 unfold liveOf
 refine List.filter_congr fun z _ => ?_
 unfold Prob.Pre
 rw [Bool.eq_iff_iff, List.all_eq_true, List.all_eq_true]
 refine forall_congr' fun b => forall_congr' fun hb => ?_
 by_cases hab : a ≤ b
 ·simp [hab]
 ·rw [toF_get f (List.mem_range.1 hb), toF_get g (List.mem_range.1 hb), h b (by omega)]
theorem liveOf_put {p : Policy} {f f' : A10 Int} {a : Nat} (ha : a < 10) (h : ∀ j, j < a → f'.get j = f.get j) (c : Int) : liveOf p (f'.put a c) (a + 1) = (liveOf p f a).filter fun z => (probOf p).at z a c := by
 rw [← pre_congr h]
 unfold liveOf
 rw [toF_put f' ha, List.filter_filter]
 exact List.filter_congr fun z _ => pre_succ ha (toF f') c z
theorem dec_live (p : Policy) (f : A10 Int) : decS p f = decL p (liveOf p f 10) := by
 have h := (prob_ok p).dec (toF f)
 have e : (probOf p).dec (toF f) = decS p f := by show decS p (toA (toF f)) = _; rw [toA_toF]
 rw [← e, h]
 rfl
theorem rest_loop {p : Policy} (G : PG p) {a : Nat} (ha : a < 10) {live : List Nat} (hl : ∀ z ∈ live, z < (zonesOf p).length) (hn : live.length ≤ 1000000) (x : Int) :
  whileG (tdiff_l26 (pz p live) p.Rules (a : Int) x) ([], 0) = some (pz p (live.filter fun z => (probOf p).at z a x)) := by
 have hf : ∀ (l s : List Nat), l.foldl (fun s i => if (probOf p).at i a x then s ++ [i] else s) s = s ++ l.filter (fun i => (probOf p).at i a x) := fun l => by
  induction l with
  | nil => intro s; simp
  | cons i l ih =>
   intro s
   rw [List.foldl_cons, ih, List.filter_cons]
   split <;> simp
 have := loop_fold (step := tdiff_l26 (pz p live) p.Rules (a : Int) x) (fun s i => (pz p s, i)) live (fun s i => if (probOf p).at i a x then s ++ [i] else s) [] (pz p (live.filter fun i => (probOf p).at i a x)) (fun k i hi => by
  have hk : k < live.length := (List.getElem?_eq_some_iff.1 hi).1
  have hlt : (k : Int) < (pz p live).length := by rw [pz_len]; omega
  obtain ⟨q, j, r, zn, g1, g2, g3, g4, g5, g6, -, -⟩ := zone_of G (hl i (List.mem_of_getElem? hi)) ha
  rw [hf, List.nil_append]
  have hsl : ((live.take k).filter fun i => (probOf p).at i a x).length ≤ 1000000 := Nat.le_trans (List.length_filter_le _ _) (by rw [List.length_take]; omega)
  generalize ((live.take k).filter fun i => (probOf p).at i a x) = s at hsl
  have i1 : idxG p.Rules (lv p i).rule = some r := by rw [g1]; exact idxG_some g3
  have i2 : idxG r.Zones (lv p i).zone = some zn := by rw [g2]; exact idxG_some g4
  have h3 : appG (pz p s) [lv p i] = some (pz p (s ++ [i])) := by
   rw [appG_some (by rw [pz_len]; simp; omega)]; simp [pz]
  have hat : (probOf p).at i a x = decide (zlo (zonesOf p) i a ≤ x ∧ x ≤ zhi (zonesOf p) i a) := rfl
  simp only [tdiff_l26, io_lt, io_len, hlt, decide_true, cond_true, idxG_some (pz_get hi), i1, i2, pixG_some ha, Option.bind_some, g5, g6, io_le, io_add, wr_up (k := k) (by omega), hat]
  by_cases h1 : zlo (zonesOf p) i a ≤ x
  ·by_cases h2 : x ≤ zhi (zonesOf p) i a
   ·simp [h1, h2, h3]
   ·simp [h1, h2]
  ·simp [h1]) (by
  rw [hf, List.nil_append]
  simp [tdiff_l26, io_lt, io_len, pz_len])
 exact this
variable {p : Policy} {t : Tab Decision}
theorem tdiff_ok (G : PG p) (hR : p.Rules.length ≤ 1000) (hZ : ∀ r ∈ p.Rules, r.Zones.length ≤ 1000) (c : t.Ok limL) (hb : ∀ n ∈ t.ns, Bd n) (hN : t.ns.length ≤ 20000) :
  ∀ (n a x : Nat) (facts : A10 Int) (m : List (ByteArray × Bool)), n + a = 11 → a ≤ 10 → x < t.ns.length → a ≤ lev (t.nd x) → MemoV p t m →
  ∃ b g m', tdiff p.Rules (tabE t).Nodes (tabE t).Leaves limZ n (a : Int) (pz p (liveOf p facts a)) (x : Int) facts m = some (b, g, m') ∧ MemoV p t m' ∧ (∀ j, j < a → g.get j = facts.get j) ∧
   (b = true → Fnd limL (probOf p) (decL p) t a (liveOf p facts a) x (toF facts) (toF g)) ∧ (b = false → EqvP p t a (liveOf p facts a) x) := by
 intro n
 induction n with
 | zero => intro a x facts m h1 h2; omega
 | succ n ih =>
  intro a x facts m hna ha hx hlx hM
  have hal := liveOf_lt (p := p) (f := facts) (a := a)
  have hll := liveOf_len p facts a
  have hnz := G.nz
  simp only [tdiff, tdiff_b, io_eqi]
  by_cases ha10 : a = 10
  ·subst ha10
   have h10 : ((10 : Nat) : Int) = 10 := rfl
   have hkl := ten_leaf c hx hlx
   have hlf := ((c.fine x hx).leaf hkl).2.2
   have hg : idxG (tabE t).Nodes (x : Int) = some (encN (t.nd x)) := idxG_some (encs_get hx)
   have hgl : idxG (tabE t).Leaves (encN (t.nd x)).Leaf = some (t.ls.getD (t.nd x).leaf default) := by
    refine idxG_some (k := (t.nd x).leaf) ?_
    show t.ls[_]? = _
    rw [List.getD_eq_getElem?_getD, List.getElem?_eq_getElem hlf]; rfl
   have hdec : decide_Decide_g (Policy.mk p.Rules) facts = some (decS p facts) := Decide_eq p facts G.rules G.zones
   have hde := dif_end (p := probOf p) (D := decL p) c hx hlx (live := liveOf p facts 10) (g := toF facts)
   rw [← dec_live] at hde
   simp only [h10, decide_true, cond_true, hg, Option.bind_some, hgl, hdec, qDecision_eq, io_not]
   refine ⟨_, facts, m, rfl, hM, fun _ _ => rfl, fun h => fnd_end (hde.2 ?_), fun h f _ hf => ?_⟩
   ·intro e
    rw [e] at h; simp at h
   ·have e : t.ls.getD (t.nd x).leaf default = decS p facts := by simpa using h
    have hff : Dif (probOf p) (decL p) t 10 (liveOf p facts 10) x f ↔ decL p (liveOf p facts 10) ≠ t.ls.getD (t.nd x).leaf default := dif_end c hx hlx
    rw [← dec_live] at hff
    exact hff.1 hf e.symm
  ·have halt : a < 10 := by omega
   have hne : ¬ ((a : Int) = 10) := by omega
   have hkey := key_eq G hR hZ (a := a) (x := x) ha (by omega) hal (by omega)
   simp only [decide_eq_false hne, cond_false, hkey, Option.bind_some]
   cases hmem : mlookD m (keyS a x (pz p (liveOf p facts a))) false with
   | true => exact ⟨false, facts, m, rfl, hM, fun _ _ => rfl, (fun h => by cases h), fun _ => hM a x _ halt hx hal hmem⟩
   | false =>
    simp only [cond_false, vals_eq G hb halt hx hal (by omega), Option.bind_some, io_len]
    have hv1 := valsL_sorted p t a (liveOf p facts a) x
    have hv2 := valsL_len hb (a := a) (live := liveOf p facts a) hx (by omega) (p := p)
    have hv3 := fun c => @mem_valsL p t a (liveOf p facts a) x c
    have hzo := fun (c : Int) (f' : A10 Int) (h : ∀ j, j < a → f'.get j = facts.get j) => liveOf_put (p := p) halt h c
    have hrl := fun c => rest_loop G halt hal (by omega) c
    generalize valsL p t a (liveOf p facts a) x = L at hv1 hv2 hv3
    generalize liveOf p facts a = live at hal hll hkey hmem hv3 hzo hrl
    obtain ⟨r, hr, hQ⟩ := loop_up (step := tdiff_l22 (L.length : Int) L (a : Int) (pz p live) p.Rules (tabE t).Nodes (x : Int) (tabE t).Leaves limZ (tdiff p.Rules (tabE t).Nodes (tabE t).Leaves limZ n)) (fun (s : A10 Int × List (ByteArray × Bool)) i => (s.1, s.2, i)) L.length
     (fun k s => MemoV p t s.2 ∧ (∀ j, j < a → s.1.get j = facts.get j) ∧ ∀ c ∈ L.take k, EqvP p t (a + 1) (live.filter fun z => (probOf p).at z a c) (nxt t a x c))
     (fun r => (∃ f m', r = .inl (f, m') ∧ MemoV p t m' ∧ (∀ j, j < a → f.get j = facts.get j) ∧ EqvP p t a live x) ∨
      (∃ g m', r = .inr (true, g, m') ∧ MemoV p t m' ∧ (∀ j, j < a → g.get j = facts.get j) ∧ Fnd limL (probOf p) (decL p) t a live x (toF facts) (toF g)))
     (fun k s hk hI => by
      obtain ⟨f', m'⟩ := s
      obtain ⟨hI1, hI2, hI3⟩ := hI
      simp only at hI1 hI2
      have hck : L[k]? = some L[k] := by simp [hk]
      have hmk : L[k] ∈ L := List.getElem_mem hk
      have hlt : (k : Int) < L.length := by omega
      generalize hck' : L[k] = v at hck hmk
      have hput : ∀ j, j < a → (f'.put a v).get j = facts.get j := fun j hj => by rw [A10.get_put _ _ _ _ halt (by omega), if_neg (by omega)]; exact hI2 j hj
      have hputa : (f'.put a v).get a = v := by rw [A10.get_put _ _ _ _ halt halt, if_pos rfl]
      obtain ⟨nx1, nx2⟩ := nxt_ok c hx hlx halt v
      have hnext : (Option.bind (Option.bind (idxG (tabE t).Nodes (x : Int)) fun x34 => bif decide ((0 : Int) < (x34.Kids.length : Int)) then (Option.bind (idxG (tabE t).Nodes (x : Int)) fun x35 => some (decide (x35.Attr = (a : Int)))) else some false) fun v33 =>
        bif v33 then (Option.bind (tkid_b p.Rules (tabE t).Nodes (tabE t).Leaves limZ (x : Int) v (f'.put a v) m') fun r36 => some r36) else some (x : Int)) = some ((nxt t a x v : Nat) : Int) := by
       rw [inner_eq hx, Option.bind_some]
       unfold nxt
       by_cases h : (t.nd x).kids ≠ [] ∧ (t.nd x).attr = a
       ·rw [decide_eq_true h, cond_true, if_pos h, kidv_eq c hb _ hx h.1]; rfl
       ·rw [decide_eq_false h, cond_false, if_neg h]
      obtain ⟨b, g, m2, h1, h2, h3, h4, h5⟩ := ih (a + 1) (nxt t a x v) (f'.put a v) m' (by omega) (by omega) nx1 nx2 hI1
      rw [hzo v f' hI2] at h1 h4 h5
      have hg : ∀ j, j < a → g.get j = facts.get j := fun j hj => (h3 j (by omega)).trans (hput j hj)
      have hwa : IntKind.i64.wrap ((a : Int) + 1) = ((a + 1 : Nat) : Int) := wr_up (by omega)
      simp only [tdiff_l22, io_lt, io_len, io_eqi, hlt, decide_true, cond_true, idxG_some hck, pixG_some halt, Option.bind_some, hrl, io_add, hwa, wr_up (k := k) (by omega)]
      rw [hnext]
      simp only [Option.bind_some, h1]
      cases b with
      | true =>
       refine .inr ⟨_, by simp [orR], .inr ⟨g, m2, rfl, h2, hg, ?_⟩⟩
       refine fnd_of limL_ok c halt hx hv3 (facts' := toF (f'.put a v)) hmk (fun c' hc' hlt' => ?_) (fun j hj => ?_) ?_ (h4 rfl)
       ·obtain ⟨i, hi, rfl⟩ := List.getElem_of_mem hc'
        refine hI3 _ (List.mem_take_iff_getElem.2 ⟨i, ?_, rfl⟩)
        have : i < k := by
         refine Classical.byContradiction fun hge => ?_
         rcases Nat.lt_or_eq_of_le (Nat.le_of_not_lt hge) with h | h
         ·have := List.pairwise_iff_getElem.1 hv1 k i hk hi h; omega
         ·subst h; omega
        omega
       ·rw [toF_get _ (by omega), toF_get _ (by omega)]; exact hput j hj
       ·rw [toF_get _ halt]; exact hputa
      | false =>
       refine .inl ⟨(g, m2), by simp [orR], h2, hg, fun c' hc' => ?_⟩
       rw [List.take_add_one, hck] at hc'
       rcases List.mem_append.1 hc' with h | h
       ·exact hI3 c' h
       ·have : c' = v := by simpa using h
        subst this; exact h5 rfl)
     (fun s hI => by
      obtain ⟨f', m'⟩ := s
      obtain ⟨hI1, hI2, hI3⟩ := hI
      rw [List.take_length] at hI3
      exact ⟨_, by simp [tdiff_l22, io_lt], .inl ⟨f', m', rfl, hI1, hI2, eqv_of limL_ok c halt hx hv3 hI3⟩⟩)
     (facts, m) ⟨hM, fun _ _ => rfl, fun c hc => by simp at hc⟩
    have hr' : whileG (tdiff_l22 (L.length : Int) L (a : Int) (pz p live) p.Rules (tabE t).Nodes (x : Int) (tabE t).Leaves limZ (tdiff p.Rules (tabE t).Nodes (tabE t).Leaves limZ n)) (facts, m, 0) = some r := hr
    rw [hr']
    rcases hQ with ⟨f, m', rfl, hm, hcj, he⟩ | ⟨g, m', rfl, hm, hg, hf⟩
    ·refine ⟨false, f, _, rfl, fun a' x' l' ha' hx' hal' hl' => ?_, hcj, (fun h => by cases h), fun _ => he⟩
     rw [mlookD_mputG] at hl'
     split at hl'
     ·rename_i e
      obtain ⟨rfl, rfl, e3⟩ := keyS_inj e
      rw [pz_inj hal' hal e3]; exact he
     ·exact hm a' x' l' ha' hx' hal' hl'
    ·exact ⟨true, g, m', rfl, hm, hg, fun _ => hf, (fun h => by cases h)⟩
end Go.SX.Td
namespace Go.SX.Td
open Go Go.SX Tb
def t1 (d : Decision) : Tab Decision := ⟨[⟨0, [], [], 0⟩], [d]⟩
def t3 (d0 d1 : Decision) : Tab Decision := ⟨[⟨2, [1], [1, 2], 0⟩, ⟨0, [], [], 0⟩, ⟨0, [], [], 1⟩], [d0, d1]⟩
def t5 (d0 d1 d2 : Decision) : Tab Decision := ⟨[⟨1, [18], [1, 2], 0⟩, ⟨0, [], [], 0⟩, ⟨2, [1], [3, 4], 0⟩, ⟨0, [], [], 1⟩, ⟨0, [], [], 2⟩], [d0, d1, d2]⟩
theorem fine_leaf {nn nl : Nat} {nd : Nat → Nd} {k : Nat} (h : k < nl) : Fine limL nn nl nd ⟨0, [], [], k⟩ :=
 ⟨fun _ => ⟨rfl, rfl, h⟩, fun h => absurd rfl h, fun k hk => (by cases hk), trivial⟩
theorem fine_two {nn nl : Nat} {nd : Nat → Nd} {a : Nat} {c : Int} {i j : Nat} (ha : a < 10) (hc : limL.lo a < c ∧ c ≤ limL.hi a) (hij : i ≠ j) (hi : i < nn ∧ a < lev (nd i)) (hj : j < nn ∧ a < lev (nd j)) : Fine limL nn nl nd ⟨a, [c], [i, j], 0⟩ :=
 ⟨fun h => (by cases h), fun _ => ⟨ha, rfl, rfl, by simp, hc.1, hc.2, trivial⟩, fun k hk => by
  simp only [List.mem_cons, List.not_mem_nil, or_false] at hk
  rcases hk with rfl | rfl
  ·exact hi
  ·exact hj, ⟨hij, trivial⟩⟩
theorem t1_canon (d : Decision) : (t1 d).Canon limL where
 ok := ⟨fun x hx => by
  match x, hx with
  | 0, _ => exact fine_leaf (show 0 < 1 by decide), by simp [t1], by simp [t1]⟩
 pos := by show 0 < 1; decide
 walk := by rfl
 leaf x hx _ := by
  match x, hx with
  | 0, _ => rfl
 all := by rfl
theorem t1_val (d : Decision) (g : Fa) : (t1 d).val g 0 = d := rfl
def jd (l : List (Bool × Rule)) : Decision := finJ (l.foldl (fun (s : JS × Nat) x => (if x.1 then note s.1 s.2 x.2 else s.1, s.2 + 1)) (J0, 0)).1
theorem decS_jd (p : Policy) (f : A10 Int) : decS p f = jd (p.Rules.map fun r => (holds r f, r)) := by
 unfold decS jd
 rw [List.foldl_map]
 rfl
theorem inZ_lim {g : Fa} (hg : limL.In g) : inZ limZ (toA g) = true := by
 rw [inZ_iff]; intro i hi; rw [toA_get g i hi]; exact hg i hi
theorem v0 : validB ⟨[]⟩ = true := by decide +kernel
theorem Bd_small {n : Nd} (h1 : n.cuts.length ≤ 1) (h2 : n.kids.length ≤ 2) (h3 : ∀ c ∈ n.cuts, 0 ≤ c ∧ c ≤ 18) (h4 : ∀ k ∈ n.kids, k ≤ 10) (h5 : n.attr ≤ 10) (h6 : n.leaf ≤ 10) : Bd n :=
 ⟨by omega, by omega, fun c hc => by have := h3 c hc; omega, fun k hk => by have := h4 k hk; omega, by omega, by omega⟩
theorem PG0 {l : List Rule} (hv : validB ⟨l⟩ = true) (h : (zonesOf ⟨l⟩).length ≤ 10) : PG ⟨l⟩ := PG_few hv h
theorem g0 : PG ⟨[]⟩ := PG0 v0 (by decide)
theorem empty_Valid : table_Valid_g ⟨[], []⟩ = some false := by
 unfold table_Valid_g
 simp only [io_lt, io_len, List.length_nil, Int.natCast_zero]
 rfl
end Go.SX.Td
