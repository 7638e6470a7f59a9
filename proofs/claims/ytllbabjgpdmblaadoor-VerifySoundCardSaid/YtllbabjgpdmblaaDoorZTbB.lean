/- Parts of the proof. -/
import Derived.Test.YtllbabjgpdmblaaDoorZTbU
set_option linter.unusedSimpArgs false
set_option linter.unusedVariables false
set_option linter.unusedSectionVars false
namespace Tb
set_option linter.unusedSectionVars false
structure Bs (δ : Type) where
 tab : Tab δ
 made : List ((Nat × List Nat) × Nat)
section
variable {δ : Type} [Inhabited δ] [DecidableEq δ]
def idx {α : Type} [DecidableEq α] : List α → α → Option Nat
 | [], _ => none
 | a :: l, x => if a = x then some 0 else (idx l x).map (· + 1)
structure Prob (δ : Type) where
 nz : Nat
 lo : Nat → Nat → Int
 hi : Nat → Nat → Int
 dec : Fa → δ
 starts : Nat → List Nat → List Int
def Prob.at (p : Prob δ) (z a : Nat) (v : Int) : Bool := decide (p.lo z a ≤ v ∧ v ≤ p.hi z a)
def kids (F : Int → Bs δ → Bs δ × Nat) : List Int → Bs δ → List Int → List Nat → Bs δ × List Int × List Nat
 | [], b, C, K => (b, C, K)
 | c :: l, b, C, K =>
  let r := F c b
  if K.getLast? = some r.2 then kids F l r.1 C K
  else kids F l r.1 (if K = [] then C else C ++ [c]) (K ++ [r.2])
def Prob.In (p : Prob δ) (z : Nat) (a : Nat) (g : Fa) : Bool := (List.range 10).all fun b => decide (b < a) || p.at z b (g b)
structure Prob.Ok (L : Lim) (p : Prob δ) (D : List Nat → δ) : Prop where
 dec : ∀ g, p.dec g = D ((List.range p.nz).filter fun z => p.In z 0 g)
 st : ∀ a live, a < 10 → ∃ l, p.starts a live = L.lo a :: l ∧ Asc (L.lo a) (L.hi a) l ∧ ∀ z ∈ live, ∀ c, c = p.lo z a ∨ c = p.hi z a + 1 → L.lo a < c → c ≤ L.hi a → c ∈ l
def sem (p : Prob δ) (D : List Nat → δ) (a : Nat) (live : List Nat) (g : Fa) : δ := D (live.filter fun z => p.In z a g)
variable {L : Lim} {p : Prob δ} {D : List Nat → δ}
theorem In_succ {z a : Nat} {g : Fa} (ha : a < 10) : p.In z a g = (p.at z a (g a) && p.In z (a + 1) g) := by
 rw [Bool.eq_iff_iff]
 simp only [Prob.In, List.all_eq_true, List.mem_range, Bool.or_eq_true, decide_eq_true_eq, Bool.and_eq_true]
 constructor
 ·intro h
  refine ⟨by simpa using h a ha, fun b hb => ?_⟩
  rcases h b hb with h1 | h1
  ·exact .inl (by omega)
  ·exact .inr h1
 ·rintro ⟨h1, h2⟩ b hb
  by_cases hab : b = a
  ·subst hab; exact .inr h1
  ·rcases h2 b hb with h3 | h3
   ·exact .inl (by omega)
   ·exact .inr h3
theorem sem_succ {a : Nat} {live : List Nat} {g : Fa} (ha : a < 10) : sem p D a live g = sem p D (a + 1) (live.filter fun z => p.at z a (g a)) g := by
 unfold sem
 rw [List.filter_filter]
 congr 1
 refine List.filter_congr fun z _ => ?_
 rw [In_succ ha, Bool.and_comm]
theorem sem_ten {live : List Nat} {g : Fa} : sem p D 10 live g = D live := by
 unfold sem
 congr 1
 rw [List.filter_eq_self]
 intro z _
 simp only [Prob.In, List.all_eq_true, List.mem_range, Bool.or_eq_true, decide_eq_true_eq]
 exact fun b hb => .inl hb
structure Ext (t t' : Tab δ) : Prop where
 ns : ∃ l, t'.ns = t.ns ++ l
 ls : ∃ l, t'.ls = t.ls ++ l
theorem Ext.refl (t : Tab δ) : Ext t t := ⟨⟨[], by simp⟩, ⟨[], by simp⟩⟩
theorem Ext.trans {t t' t'' : Tab δ} (h : Ext t t') (k : Ext t' t'') : Ext t t'' := by
 obtain ⟨⟨a, ha⟩, ⟨b, hb⟩⟩ := h
 obtain ⟨⟨c, hc⟩, ⟨d, hd⟩⟩ := k
 exact ⟨⟨a ++ c, by rw [hc, ha, List.append_assoc]⟩, ⟨b ++ d, by rw [hd, hb, List.append_assoc]⟩⟩
theorem Ext.len {t t' : Tab δ} (h : Ext t t') : t.ns.length ≤ t'.ns.length := by obtain ⟨⟨a, ha⟩, _⟩ := h; rw [ha]; simp
theorem Ext.nd {t t' : Tab δ} (h : Ext t t') {x : Nat} (hx : x < t.ns.length) : t'.nd x = t.nd x := by
 obtain ⟨⟨a, ha⟩, _⟩ := h
 unfold Tab.nd
 rw [ha, List.getD_eq_getElem?_getD, List.getD_eq_getElem?_getD, List.getElem?_append_left hx]
theorem Ext.val {t t' : Tab δ} (h : Ext t t') (ht : t.Ok L) (g : Fa) : ∀ (n x : Nat), x < t.ns.length → t'.valN g n x = t.valN g n x
 | 0, _, _ => rfl
 | n + 1, x, hx => by
  simp only [Tab.valN, h.nd hx]
  split
  ·rename_i hk
   obtain ⟨_, ⟨b, hb⟩⟩ := h
   rw [hb, List.getD_eq_getElem?_getD, List.getD_eq_getElem?_getD, List.getElem?_append_left ((ht.fine x hx).leaf hk).2.2]
  ·rename_i hk
   exact h.val ht g n _ ((ht.fine x hx).kid _ (kid_mem ht hx hk _).2).1
def Prob.Pre (p : Prob δ) (a : Nat) (f : Fa) (z : Nat) : Bool := (List.range 10).all fun b => decide (a ≤ b) || p.at z b (f b)
def Prob.Can (p : Prob δ) (a : Nat) (live : List Nat) : Prop := ∃ f, live = (List.range p.nz).filter (p.Pre a f)
structure Inv (L : Lim) (p : Prob δ) (D : List Nat → δ) (b : Bs δ) (s : Nat := 0) : Prop where
 ok : b.tab.Ok L
 made : ∀ a live n, ((a, live), n) ∈ b.made → n < b.tab.ns.length ∧ a ≤ lev (b.tab.nd n) ∧ a < 10 ∧ p.Can a live ∧ ∀ g, L.In g → b.tab.val g n = sem p D a live g
 keys : (b.made.map (·.1)).Nodup
 size : b.tab.ns.length ≤ b.tab.ls.length + b.made.length + s
 lnode : ∀ i, i < b.tab.ls.length → (⟨0, [], [], i⟩ : Nd) ∈ b.tab.ns
 dec : ∀ d ∈ b.tab.ls, ∃ live : List Nat, p.Can 10 live ∧ d = D live
theorem Fine.push {t : Tab δ} {l : List Nd} {m : List δ} {n : Nd} (h : Fine L t.ns.length t.ls.length t.nd n) : Fine L (t.ns ++ l).length (t.ls ++ m).length (Tab.nd (δ := δ) ⟨t.ns ++ l, t.ls ++ m⟩) n where
 leaf hk := ⟨(h.leaf hk).1, (h.leaf hk).2.1, by have := (h.leaf hk).2.2; simp; omega⟩
 inner := h.inner
 kid k hk := by
  obtain ⟨h1, h2⟩ := h.kid k hk
  refine ⟨by simp; omega, ?_⟩
  have : (⟨t.ns ++ l, t.ls ++ m⟩ : Tab δ).nd k = t.nd k := Ext.nd (t := t) ⟨⟨l, rfl⟩, ⟨m, rfl⟩⟩ h1
  rw [this]; exact h2
 adj := h.adj
theorem Inv.ext {b b' : Bs δ} (h : Inv L p D b) (ho : b'.tab.Ok L) (he : Ext b.tab b'.tab) (hm : b'.made = b.made) {s : Nat} (hs : b'.tab.ns.length ≤ b'.tab.ls.length + b'.made.length + s)
  (hln : ∀ i, i < b'.tab.ls.length → (⟨0, [], [], i⟩ : Nd) ∈ b'.tab.ns) (hd : ∀ d ∈ b'.tab.ls, ∃ live : List Nat, p.Can 10 live ∧ d = D live) : Inv L p D b' s where
 ok := ho
 made a live n hn := by
  rw [hm] at hn
  obtain ⟨h1, h2, h3, h4, h5⟩ := h.made a live n hn
  refine ⟨Nat.lt_of_lt_of_le h1 he.len, by rw [he.nd h1]; exact h2, h3, h4, fun g hg => ?_⟩
  rw [← h5 g hg]; exact he.val h.ok g 11 n h1
 keys := by rw [hm]; exact h.keys
 size := hs
 lnode := hln
 dec := hd
theorem kidx_all : ∀ {C : List Int} {v : Int}, (∀ d ∈ C, d ≤ v) → kidx C v = C.length
 | [], _, _ => rfl
 | c :: l, v, h => by
  simp only [kidx, List.length_cons]
  rw [if_pos (h c (by simp)), kidx_all fun d hd => h d (by simp [hd])]
theorem kidx_snoc : ∀ {C : List Int} {c v : Int}, v < c → kidx (C ++ [c]) v = kidx C v
 | [], c, v, h => by simp only [List.nil_append, kidx]; rw [if_neg (by omega)]
 | c' :: l, c, v, h => by simp only [List.cons_append, kidx, kidx_snoc (C := l) h]
theorem asc_snoc : ∀ {C : List Int} {lo hi c : Int}, Asc lo hi C → (∀ d ∈ C, d < c) → lo < c → c ≤ hi → Asc lo hi (C ++ [c])
 | [], _, _, _, _, _, h1, h2 => ⟨h1, h2, trivial⟩
 | c' :: l, lo, hi, c, h, hd, h1, h2 => ⟨h.1, h.2.1, asc_snoc h.2.2 (fun d hd' => hd d (by simp [hd'])) (hd c' (by simp)) h2⟩
theorem adj_snoc {S : Type} : ∀ {K : List S} {k : S}, Adj K → K.getLast? ≠ some k → Adj (K ++ [k])
 | [], _, _, _ => trivial
 | [a], k, _, h => ⟨by simpa using h, trivial⟩
 | a :: b :: l, k, h, hn => ⟨h.1, adj_snoc (K := b :: l) h.2 (by simpa using hn)⟩
theorem asc_gt : ∀ {l : List Int} {lo hi : Int}, Asc lo hi l → ∀ d ∈ l, lo < d ∧ d ≤ hi
 | [], _, _, _, _, hd => by cases hd
 | c :: l, lo, hi, h, d, hd => by
  rcases List.mem_cons.1 hd with rfl | hd
  ·exact ⟨h.1, h.2.1⟩
  ·have := asc_gt h.2.2 d hd; have := h.1; omega
structure KInv (L : Lim) (p : Prob δ) (D : List Nat → δ) (a : Nat) (S : Int → Fa → δ) (l : List Int) (b : Bs δ) (C : List Int) (K : List Nat) : Prop where
 inv : Inv L p D b
 len : K.length = C.length + 1
 asc : Asc (L.lo a) (L.hi a) C
 lt : ∀ d ∈ C, ∀ c ∈ l, d < c
 adj : Adj K
 kid : ∀ k ∈ K, k < b.tab.ns.length ∧ a + 1 ≤ lev (b.tab.nd k)
 val : ∀ v, L.lo a ≤ v → v ≤ L.hi a → (∀ d ∈ l, v < d) → ∃ k, K[kidx C v]? = some k ∧ ∀ g, L.In g → b.tab.val g k = S v g
def Keys (a : Nat) (b b' : Bs δ) : Prop := ∀ k ∈ b'.made.map (·.1), k ∈ b.made.map (·.1) ∨ a ≤ k.1
def FSpec (L : Lim) (p : Prob δ) (D : List Nat → δ) (a : Nat) (S : Int → Fa → δ) (F : Int → Bs δ → Bs δ × Nat) : Prop :=
 ∀ c b, L.lo a ≤ c → c ≤ L.hi a → Inv L p D b → Inv L p D (F c b).1 ∧ Ext b.tab (F c b).1.tab ∧ (F c b).2 < (F c b).1.tab.ns.length ∧ a + 1 ≤ lev ((F c b).1.tab.nd (F c b).2) ∧ (∀ g, L.In g → (F c b).1.tab.val g (F c b).2 = S c g) ∧ Keys (a + 1) b (F c b).1
theorem KInv.step {a : Nat} {S : Int → Fa → δ} {F : Int → Bs δ → Bs δ × Nat} (hF : FSpec L p D a S F) {c c0 : Int} {l : List Int} {b : Bs δ} {C : List Int} {K : List Nat} (hasc : Asc c0 (L.hi a) (c :: l)) (h0 : L.lo a ≤ c0)
  (hS : ∀ v, c ≤ v → v ≤ L.hi a → (∀ d ∈ l, v < d) → S v = S c) (h : KInv L p D a S (c :: l) b C K) :
  KInv L p D a S l (F c b).1 (if K.getLast? = some (F c b).2 then C else C ++ [c]) (if K.getLast? = some (F c b).2 then K else K ++ [(F c b).2]) ∧ Ext b.tab (F c b).1.tab ∧ Keys (a + 1) b (F c b).1 := by
 obtain ⟨f1, f2, f3, f4, f5, f6⟩ := hF c b (by have := hasc.1; omega) hasc.2.1 h.inv
 have hlt : ∀ d ∈ C, d < c := fun d hd => h.lt d hd c (by simp)
 have old : ∀ v, L.lo a ≤ v → v < c → ∃ k, K[kidx C v]? = some k ∧ ∀ g, L.In g → (F c b).1.tab.val g k = S v g := fun v h1 h2 => by
  obtain ⟨k, k1, k2⟩ := h.val v h1 (by have := hasc.2.1; omega) (fun d hd => by
   rcases List.mem_cons.1 hd with rfl | hd
   ·exact h2
   ·have := asc_gt hasc.2.2 d hd; omega)
  refine ⟨k, k1, fun g hg => ?_⟩
  rw [← k2 g hg]
  exact f2.val h.inv.ok g 11 k (h.kid k (List.mem_of_getElem? k1)).1
 have hkid : ∀ k ∈ K, k < (F c b).1.tab.ns.length ∧ a + 1 ≤ lev ((F c b).1.tab.nd k) := fun k hk => by
  obtain ⟨k1, k2⟩ := h.kid k hk
  exact ⟨Nat.lt_of_lt_of_le k1 f2.len, by rw [f2.nd k1]; exact k2⟩
 refine ⟨?_, f2, f6⟩
 by_cases hlast : K.getLast? = some (F c b).2
 ·rw [if_pos hlast, if_pos hlast]
  refine ⟨f1, h.len, h.asc, fun d hd c' hc' => h.lt d hd c' (by simp [hc']), h.adj, hkid, fun v h1 h2 h3 => ?_⟩
  by_cases hv : v < c
  ·exact old v h1 hv
  ·refine ⟨(F c b).2, ?_, fun g hg => ?_⟩
   ·rw [kidx_all (fun d hd => by have := hlt d hd; omega), ← hlast, List.getLast?_eq_getElem?, h.len]; rfl
   ·rw [f5 g hg, hS v (by omega) h2 h3]
 ·rw [if_neg hlast, if_neg hlast]
  refine ⟨f1, by simp [h.len], asc_snoc h.asc hlt (by have := hasc.1; omega) hasc.2.1, fun d hd c' hc' => ?_, adj_snoc h.adj hlast, fun k hk => ?_, fun v h1 h2 h3 => ?_⟩
  ·rcases List.mem_append.1 hd with hd | hd
   ·exact h.lt d hd c' (by simp [hc'])
   ·simp at hd; subst hd; exact (asc_gt hasc.2.2 c' hc').1
  ·rcases List.mem_append.1 hk with hk | hk
   ·exact hkid k hk
   ·simp at hk; subst hk; exact ⟨f3, f4⟩
  ·by_cases hv : v < c
   ·obtain ⟨k, k1, k2⟩ := old v h1 hv
    refine ⟨k, ?_, k2⟩
    rw [kidx_snoc hv, List.getElem?_append_left (List.getElem?_eq_some_iff.1 k1).1]; exact k1
   ·refine ⟨(F c b).2, ?_, fun g hg => ?_⟩
    ·rw [kidx_all (fun d hd => by
      rcases List.mem_append.1 hd with hd | hd
      ·have := hlt d hd; omega
      ·simp at hd; omega), List.length_append, List.length_singleton, ← h.len]; simp
    ·rw [f5 g hg, hS v (by omega) h2 h3]
theorem pre_succ {a : Nat} (ha : a < 10) (f : Fa) (c : Int) (z : Nat) : p.Pre (a + 1) (upd f a c) z = (p.at z a c && p.Pre a f z) := by
 rw [Bool.eq_iff_iff]
 simp only [Prob.Pre, List.all_eq_true, List.mem_range, Bool.or_eq_true, decide_eq_true_eq, Bool.and_eq_true]
 constructor
 ·intro h
  refine ⟨?_, fun b hb => ?_⟩
  ·rcases h a ha with h1 | h1
   ·omega
   ·simpa [upd] using h1
  ·rcases h b hb with h1 | h1
   ·exact .inl (by omega)
   ·by_cases hab : b = a
    ·exact .inl (by omega)
    ·exact .inr (by simpa [upd, hab] using h1)
 ·rintro ⟨h1, h2⟩ b hb
  by_cases hab : b = a
  ·subst hab; exact .inr (by simpa [upd] using h1)
  ·rcases h2 b hb with h3 | h3
   ·exact .inl (by omega)
   ·exact .inr (by simpa [upd, hab] using h3)
theorem Inv.note {b : Bs δ} (h : Inv L p D b 1) {a : Nat} {live : List Nat} {n : Nat} (hk : (a, live) ∉ b.made.map (·.1)) (h1 : n < b.tab.ns.length) (h2 : a ≤ lev (b.tab.nd n)) (h3 : a < 10) (h4 : p.Can a live) (h5 : ∀ g, L.In g → b.tab.val g n = sem p D a live g) :
  Inv L p D ⟨b.tab, b.made ++ [((a, live), n)]⟩ where
 ok := h.ok
 made a' live' n' hn := by
  rcases List.mem_append.1 hn with hn | hn
  ·exact h.made a' live' n' hn
  ·simp only [List.mem_singleton, Prod.mk.injEq] at hn
   obtain ⟨⟨rfl, rfl⟩, rfl⟩ := hn
   exact ⟨h1, h2, h3, h4, h5⟩
 keys := by
  rw [List.map_append, List.nodup_append]
  exact ⟨h.keys, by simp, fun x hx y hy e => hk (by simp at hy; rw [← hy, ← e]; exact hx)⟩
 size := by have := h.size; simp; omega
 lnode := h.lnode
 dec := h.dec
end
end Tb
