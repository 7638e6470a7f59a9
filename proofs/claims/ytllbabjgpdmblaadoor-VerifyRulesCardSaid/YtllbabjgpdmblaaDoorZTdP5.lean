/- Parts of the proof. -/
import Derived.Test.YtllbabjgpdmblaaDoorZTdP4
import Derived.Test.YtllbabjgpdmblaaDoorZTdSbuildd
import Derived.Test.YtllbabjgpdmblaaDoorZTd20d
set_option linter.unusedSimpArgs false
set_option linter.unusedVariables false
set_option linter.unusedSectionVars false
namespace Go.SX.Td
open Go Go.SX Tb
set_option linter.unusedSectionVars false
def encN (n : Nd) : Node := ⟨(n.attr : Int), n.cuts, ints n.kids, (n.leaf : Int)⟩
theorem encN_inj {n m : Nd} (h : encN n = encN m) : n = m := by
 obtain ⟨a1, a2, a3, a4⟩ := n
 obtain ⟨b1, b2, b3, b4⟩ := m
 simp only [encN, Node.mk.injEq] at h
 obtain ⟨h1, h2, h3, h4⟩ := h
 rw [Int.ofNat.inj h1, h2, ints_inj h3, Int.ofNat.inj h4]
def nkey (n : Node) : ByteArray := textOf [n.Cuts, n.Kids, [n.Attr, n.Leaf]]
theorem nkey_inj {n m : Node} (h : nkey n = nkey m) : n = m := by
 have := textOf_inj h
 obtain ⟨a1, a2, a3, a4⟩ := n
 obtain ⟨b1, b2, b3, b4⟩ := m
 simp only [List.cons.injEq, and_true] at this
 obtain ⟨h1, h2, h3, h4⟩ := this
 subst h1; subst h2; subst h3; subst h4; rfl
def placesK {α κ : Type} (key : α → κ) (k : Nat) (l : List α) : List (κ × Int) := (l.zipIdx k).map fun x => (key x.1, (x.2 : Int))
def places {α κ : Type} (key : α → κ) (l : List α) : List (κ × Int) := placesK key 0 l
theorem mputG_new {κ α : Type} [DecidableEq κ] (k : κ) (v : α) : ∀ m : List (κ × α), mlook m k = none → mputG m k v = m ++ [(k, v)]
 | [], _ => rfl
 | (q, w) :: m, h => by
  simp only [mlook] at h
  split at h
  ·cases h
  ·rename_i hq
   simp only [mputG, if_neg hq, List.cons_append]
   rw [mputG_new k v m h]
variable (b : Bs Decision)
variable {b}
end Go.SX.Td
namespace Go.SX.Td
open Go Go.SX Tb
def ZOk (zs : Zs) : Prop := ∀ z ∈ zs, ∀ j, j < 10 → (limZ.get j).Lo ≤ (z.get j).Lo ∧ (z.get j).Lo ≤ (z.get j).Hi ∧ (z.get j).Hi ≤ (limZ.get j).Hi
theorem ZOk.get {zs : Zs} (h : ZOk zs) {z a : Nat} (hz : z < zs.length) (ha : a < 10) : 0 ≤ zlo zs z a ∧ zlo zs z a ≤ zhi zs z a ∧ zhi zs z a ≤ 1000000000 := by
 have h1 := h zs[z] (by simp) a ha
 have h2 := lim_get a
 have e1 : zlo zs z a = (zs[z].get a).Lo := by simp [zlo, hz]
 have e2 : zhi zs z a = (zs[z].get a).Hi := by simp [zhi, hz]
 have e3 : limL.lo a = (limZ.get a).Lo := rfl
 have e4 : limL.hi a = (limZ.get a).Hi := rfl
 rw [e1, e2]; omega
end Go.SX.Td
namespace Go.SX.Td
open Go Go.SX Tb
abbrev InvP (p : Policy) (b : Bs Decision) : Prop := Inv limL (probOf p) (decL p) b
abbrev KSt := Bs Decision × A10 Int × List Int × List Nat
structure KI (p : Policy) (a : Nat) (F : Int → Bs Decision → Bs Decision × Nat) (f : A10 Int) (l : List Int) (b0 : Bs Decision) (k : Nat) (s : KSt) : Prop where
 eq : kids F (l.take k) b0 [] [] = (s.1, s.2.2.1, s.2.2.2)
 inv : InvP p s.1
 f : ∀ c, s.2.1.put a c = f.put a c
 cl : s.2.2.1.length ≤ k
 kl : s.2.2.2.length ≤ k
 z : k = 0 → s.2.2.2 = []
 nz : 0 < k → s.2.2.2 ≠ []
 lt : ∀ x ∈ s.2.2.2, x < s.1.tab.ns.length
 cm : ∀ c ∈ s.2.2.1, c ∈ l
 keys : Keys (a + 1) b0 s.1
 ext : Ext b0.tab s.1.tab
end Go.SX.Td
namespace Go.SX.Td
open Go Go.SX Tb
structure PG (p : Policy) : Prop where
 rules : p.Rules.length ≤ 1000000
 zones : ∀ r ∈ p.Rules, r.Zones.length ≤ 1000000
 zok : ZOk (zonesOf p)
 nz : (zonesOf p).length ≤ 1000
 bnd : ∀ b, InvP p b → b.tab.ns.length ≤ 20000 ∧ b.tab.ls.length ≤ 20000
end Go.SX.Td
namespace Go.SX.Td
open Go Go.SX Tb
end Go.SX.Td
namespace Go.SX.Td
open Go Go.SX Tb
def seenE (o : List Nat) : List (Int × Bool) := o.map fun k : Nat => ((k : Int), true)
theorem look_seen : ∀ (o : List Nat) (x : Nat), mlook (seenE o) (x : Int) = if x ∈ o then some true else none
 | [], _ => rfl
 | a :: o, x => by
  have ih := look_seen o x
  simp only [seenE, List.map_cons, mlook, List.mem_cons] at ih ⊢
  by_cases h : x = a
  ·subst h; simp
  ·rw [if_neg (by omega), ih]
   simp [h]
theorem look_seenD (o : List Nat) (x : Nat) : mlookD (seenE o) (x : Int) false = decide (x ∈ o) := by
 unfold mlookD; rw [look_seen]; split <;> simp [*]
theorem put_seen {o : List Nat} {x : Nat} (h : x ∉ o) : mputG (seenE o) (x : Int) true = seenE (o ++ [x]) := by
 rw [mputG_new _ _ _ (by rw [look_seen, if_neg h])]; simp [seenE]
theorem len_lt {o : List Nat} {N : Nat} (h1 : o.Nodup) (h2 : ∀ y ∈ o, y < N) : o.length ≤ N := by
 have := len_le (l := o) (m := List.range N) h1 fun x hx => List.mem_range.2 (h2 x hx)
 rwa [List.length_range] at this
theorem encs_get {t : Tab Decision} {x : Nat} (hx : x < t.ns.length) : (t.ns.map encN)[x]? = some (encN (t.nd x)) := by
 rw [List.getElem?_map]
 unfold Tab.nd
 rw [List.getD_eq_getElem?_getD, List.getElem?_eq_getElem hx]; rfl
abbrev kidsOf (t : Tab Decision) : Nat → List Nat := fun x => (t.nd x).kids
end Go.SX.Td
