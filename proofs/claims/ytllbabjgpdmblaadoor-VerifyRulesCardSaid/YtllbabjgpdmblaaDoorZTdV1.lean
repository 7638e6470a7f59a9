/- Parts of the proof. -/
import Derived.Test.YtllbabjgpdmblaaDoorZTdQ3
set_option linter.unusedSimpArgs false
set_option linter.unusedVariables false
set_option linter.unusedSectionVars false
namespace Go.SX.Td
open Go Go.SX Tb
def NdOk (N : Node) : Prop := ∃ n : Nd, N = encN n ∧ Bd n
structure SmallN (N : Node) : Prop where
 cuts : N.Cuts.length ≤ 20
 kids : N.Kids.length ≤ 21
 attr : IntOk N.Attr
 leaf : IntOk N.Leaf
 cv : ∀ c ∈ N.Cuts, IntOk c
 kv : ∀ k ∈ N.Kids, IntOk k
structure SmallT (T : Table) : Prop where
 nodes : T.Nodes.length ≤ 60
 leaves : T.Leaves.length ≤ 60
 node : ∀ N ∈ T.Nodes, SmallN N
theorem cuts_any (N : Node) (lo hi : Int) (hN : N.Cuts.length ≤ 20) : ∃ r, whileG (table_formed_l2 N hi) (lo, 0) = some r ∧ (r = .inr false ∨ r = .inl () ∧ ∀ c ∈ N.Cuts, lo < c ∧ c ≤ hi) := by
 refine loop_up (step := table_formed_l2 N hi) (fun (s : Int) i => (s, i)) N.Cuts.length (fun k s => lo ≤ s ∧ ∀ c ∈ N.Cuts.take k, lo < c ∧ c ≤ hi) _ (fun k s hk hI => ?_) (fun s hI => ?_) lo (by simp)
 ·obtain ⟨i1, i2⟩ := hI
  have hx : N.Cuts[k]? = some N.Cuts[k] := by simp [hk]
  have ht : N.Cuts.take (k + 1) = N.Cuts.take k ++ [N.Cuts[k]] := by rw [List.take_add_one, hx]; rfl
  generalize N.Cuts[k] = x at hx ht
  have hlt : (k : Int) < N.Cuts.length := by omega
  simp only [table_formed_l2, io_lt, io_len, hlt, decide_true, cond_true, idxG_some hx, Option.bind_some, io_le, io_add, wr_up (k := k) (by omega)]
  by_cases ha : x ≤ s
  ·exact .inr ⟨.inr false, by simp [ha], .inl rfl⟩
  ·by_cases hb : hi < x
   ·exact .inr ⟨.inr false, by simp [ha, hb], .inl rfl⟩
   ·refine .inl ⟨x, by simp [ha, hb], by omega, fun c hc => ?_⟩
    rw [ht] at hc
    rcases List.mem_append.1 hc with hc | hc
    ·exact i2 c hc
    ·simp only [List.mem_singleton] at hc; subst hc; omega
 ·have hlt : ¬ ((N.Cuts.length : Int) < N.Cuts.length) := by omega
  refine ⟨.inl (), by simp only [table_formed_l2, io_lt, io_len, hlt, decide_false, cond_false], .inr ⟨rfl, ?_⟩⟩
  have := hI.2
  rwa [List.take_length] at this
theorem kids_any {T : Table} (S : SmallT T) (N : Node) (hN : N.Kids.length ≤ 21) : ∃ r, whileG (table_formed_l4 N T) 0 = some r ∧ (r = .inr false ∨ r = .inl () ∧ ∀ k ∈ N.Kids, 0 ≤ k ∧ k < 60) := by
 have hnn := S.nodes
 refine loop_up (step := table_formed_l4 N T) (fun (_ : Unit) i => i) N.Kids.length (fun k _ => ∀ c ∈ N.Kids.take k, 0 ≤ c ∧ c < 60) _ (fun k s hk hI => ?_) (fun s hI => ?_) () (by simp)
 ·have hx : N.Kids[k]? = some N.Kids[k] := by simp [hk]
  have ht : N.Kids.take (k + 1) = N.Kids.take k ++ [N.Kids[k]] := by rw [List.take_add_one, hx]; rfl
  generalize N.Kids[k] = x at hx ht
  have hlt : (k : Int) < N.Kids.length := by omega
  simp only [table_formed_l4, io_lt, io_len, hlt, decide_true, cond_true, idxG_some hx, Option.bind_some, io_le, io_add, wr_up (k := k) (by omega)]
  by_cases h0 : x < 0
  ·exact .inr ⟨.inr false, by rw [decide_eq_true h0]; rfl, .inl rfl⟩
  ·rw [decide_eq_false h0, cond_false]
   by_cases h1 : (T.Nodes.length : Int) ≤ x
   ·exact .inr ⟨.inr false, by rw [decide_eq_true h1]; rfl, .inl rfl⟩
   ·rw [decide_eq_false h1, cond_false]
    obtain ⟨i, rfl⟩ : ∃ i : Nat, x = (i : Int) := ⟨x.toNat, by omega⟩
    have hi : i < T.Nodes.length := by omega
    have hg : idxG T.Nodes (i : Int) = some T.Nodes[i] := idxG_some (by simp [hi])
    generalize T.Nodes[i] = y at hg
    have tail : ∃ b, (bif decide (0 < ((y.Kids.length : Nat) : Int)) then some (decide (y.Attr ≤ N.Attr)) else some false) = some b := by
     by_cases h : 0 < ((y.Kids.length : Nat) : Int)
     ·exact ⟨_, by rw [decide_eq_true h, cond_true]⟩
     ·exact ⟨_, by rw [decide_eq_false h, cond_false]⟩
    obtain ⟨b, htail⟩ := tail
    have fin : ∀ c ∈ N.Kids.take (k + 1), 0 ≤ c ∧ c < 60 := fun c hc => by
     rw [ht] at hc
     rcases List.mem_append.1 hc with hc | hc
     ·exact hI c hc
     ·simp only [List.mem_singleton] at hc; subst hc; omega
    by_cases h2 : (0 : Int) < (k : Int)
    ·obtain ⟨z, hz⟩ : ∃ z, N.Kids[k - 1]? = some z := ⟨N.Kids[k - 1]'(by omega), by rw [List.getElem?_eq_getElem]⟩
     have hp : io.ar .sub .i64 (k : Int) 1 = ((k - 1 : Nat) : Int) := by rw [io_subi, wr64 (by omega) (by omega)]; omega
     simp only [decide_eq_true h2, cond_true, hp, idxG_some hz, Option.bind_some, io_eqi]
     by_cases h3 : z = (i : Int)
     ·exact .inr ⟨.inr false, by rw [decide_eq_true h3]; rfl, .inl rfl⟩
     ·simp only [decide_eq_false h3, cond_false, hg, Option.bind_some, htail]
      cases b with
      | true => exact .inr ⟨.inr false, rfl, .inl rfl⟩
      | false => exact .inl ⟨(), rfl, fin⟩
    ·simp only [decide_eq_false h2, cond_false, hg, Option.bind_some, htail]
     cases b with
     | true => exact .inr ⟨.inr false, rfl, .inl rfl⟩
     | false => exact .inl ⟨(), rfl, fin⟩
 ·have hlt : ¬ ((N.Kids.length : Int) < N.Kids.length) := by omega
  refine ⟨.inl (), by simp only [table_formed_l4, io_lt, io_len, hlt, decide_false, cond_false], .inr ⟨rfl, ?_⟩⟩
  rwa [List.take_length] at hI
theorem ndOk_of {N : Node} (ha : 0 ≤ N.Attr ∧ N.Attr < 60) (hl : 0 ≤ N.Leaf ∧ N.Leaf < 60) (hcl : N.Cuts.length ≤ 20) (hkl : N.Kids.length ≤ 21) (hc : ∀ c ∈ N.Cuts, -1 ≤ c ∧ c ≤ 1000000000) (hk : ∀ k ∈ N.Kids, 0 ≤ k ∧ k < 60) : NdOk N := by
 obtain ⟨A, C, K, l⟩ := N
 simp only at ha hl hcl hkl hc hk
 refine ⟨⟨A.toNat, C, K.map Int.toNat, l.toNat⟩, ?_, ?_⟩
 ·have e : K = ints (K.map Int.toNat) := by
   unfold ints
   rw [List.map_map]
   conv => lhs; rw [← List.map_id K]
   refine List.map_congr_left fun k h => ?_
   have := hk k h
   show k = Int.ofNat k.toNat
   rw [Int.ofNat_eq_natCast]; omega
  have e1 : A = (A.toNat : Int) := by omega
  have e2 : l = (l.toNat : Int) := by omega
  show Node.mk A C K l = Node.mk (A.toNat : Int) C (ints (K.map Int.toNat)) (l.toNat : Int)
  rw [← e, ← e1, ← e2]
 ·refine ⟨by show C.length ≤ _; omega, by simp; omega, fun c h => by have := hc c h; omega, fun k h => ?_, by show A.toNat ≤ _; omega, by show l.toNat ≤ _; omega⟩
  simp only [List.mem_map] at h
  obtain ⟨j, hj, rfl⟩ := h
  have := hk j hj; omega
theorem formed_any {T : Table} (S : SmallT T) {N : Node} (hS : SmallN N) : ∃ b, table_formed_g T N = some b ∧ (b = true → NdOk N ∧ (N.Kids = [] → N.Leaf < T.Leaves.length)) := by
 have hcl := hS.cuts
 have hkl := hS.kids
 have hnl := S.leaves
 unfold table_formed_g
 simp only [io_eqi, io_len, io_le, io_lt, io_not]
 by_cases hk : N.Kids = []
 ·have h0 : ((N.Kids.length : Nat) : Int) = 0 := by rw [hk]; rfl
  rw [decide_eq_true h0, cond_true]
  by_cases h1 : ((N.Cuts.length : Nat) : Int) = 0
  ·rw [decide_eq_true h1, cond_true]
   by_cases h2 : N.Attr = 0
   ·rw [decide_eq_true h2, cond_true]
    by_cases h3 : 0 ≤ N.Leaf
    ·rw [decide_eq_true h3, cond_true]
     refine ⟨_, rfl, fun h => ?_⟩
     have h4 : N.Leaf < T.Leaves.length := by simpa using h
     have h5 : N.Cuts = [] := List.eq_nil_of_length_eq_zero (by omega)
     exact ⟨ndOk_of (by omega) (by omega) hcl hkl (by rw [h5]; simp) (by rw [hk]; simp), fun _ => h4⟩
    ·exact ⟨false, by rw [decide_eq_false h3, cond_false], fun h => by cases h⟩
   ·exact ⟨false, by rw [decide_eq_false h2, cond_false], fun h => by cases h⟩
  ·exact ⟨false, by rw [decide_eq_false h1, cond_false], fun h => by cases h⟩
 ·have h0 : ¬ ((N.Kids.length : Nat) : Int) = 0 := by
   have : N.Kids.length ≠ 0 := by simpa using hk
   omega
  rw [decide_eq_false h0, cond_false]
  by_cases h1 : N.Attr < 0
  ·exact ⟨false, by rw [decide_eq_true h1]; rfl, fun h => by cases h⟩
  ·rw [decide_eq_false h1, cond_false]
   by_cases h2 : 10 ≤ N.Attr
   ·exact ⟨false, by rw [decide_eq_true h2]; rfl, fun h => by cases h⟩
   ·rw [decide_eq_false h2, cond_false]
    by_cases h3 : N.Leaf = 0
    ·rw [decide_eq_true h3, Bool.not_true, cond_false]
     by_cases h4 : ((N.Cuts.length : Nat) : Int) = 0
     ·exact ⟨false, by rw [decide_eq_true h4]; rfl, fun h => by cases h⟩
     ·rw [decide_eq_false h4, cond_false]
      obtain ⟨a, ha⟩ : ∃ a : Nat, N.Attr = (a : Int) := ⟨N.Attr.toNat, by omega⟩
      have ha10 : a < 10 := by omega
      obtain ⟨r1, e1, c1⟩ := cuts_any N (limZ.get a).Lo (limZ.get a).Hi hcl
      obtain ⟨r2, e2, c2⟩ := kids_any S N hkl
      simp only [Option.bind_some, ha, Limits_eq, pixG_some ha10, e1]
      by_cases h5 : ((N.Kids.length : Nat) : Int) = io.ar .add .i64 ((N.Cuts.length : Nat) : Int) 1
      ·rw [decide_eq_true h5]
       rcases c1 with rfl | ⟨rfl, c1⟩
       ·exact ⟨false, rfl, fun h => by cases h⟩
       ·simp only [Bool.not_true, cond_false, orR, Option.bind_some, e2]
        rcases c2 with rfl | ⟨rfl, c2⟩
        ·exact ⟨false, rfl, fun h => by cases h⟩
        ·refine ⟨true, rfl, fun _ => ⟨ndOk_of (by omega) (by omega) hcl hkl (fun c hc => ?_) c2, fun h => absurd h hk⟩⟩
         have := c1 c hc
         have h5 := lim_get a
         have e5 : limL.lo a = (limZ.get a).Lo := rfl
         have e6 : limL.hi a = (limZ.get a).Hi := rfl
         omega
      ·exact ⟨false, by rw [decide_eq_false h5]; rfl, fun h => by cases h⟩
    ·exact ⟨false, by rw [decide_eq_false h3]; rfl, fun h => by cases h⟩
theorem valid_bad {T : Table} (S : SmallT T) {k0 : Nat} {N0 : Node} (hk0 : T.Nodes[k0]? = some N0) (hbad : ¬ NdOk N0) : whileG (table_Valid_l2 T) ([], [], 0, 0) = some (.inr false) := by
 have hlt0 := (List.getElem?_eq_some_iff.1 hk0).1
 have hnn := S.nodes
 obtain ⟨r, h1, rfl⟩ := loop_up (step := table_Valid_l2 T) (fun (s : List (ByteArray × Bool) × List (Decision × Bool) × Int) i => (s.1, s.2.1, s.2.2, i)) T.Nodes.length
  (fun k s => k ≤ k0 ∧ ∃ j : Nat, s.2.2 = (j : Int) ∧ j ≤ k) (fun r => r = .inr false) (fun k s hk hI => by
  obtain ⟨known, dec, leaf⟩ := s
  obtain ⟨i1, j, i2, i3⟩ := hI
  simp only at i2
  subst i2
  have hx : T.Nodes[k]? = some T.Nodes[k] := by simp [hk]
  have hm : T.Nodes[k] ∈ T.Nodes := List.getElem_mem _
  generalize T.Nodes[k] = N at hx hm
  have hS := S.node N hm
  have hlt : (k : Int) < T.Nodes.length := by omega
  have htxt : table_text_g [N.Cuts, N.Kids, [N.Attr, N.Leaf]] = some (nkey N) := by
   rw [text_eq (textOkI (fun x hx => by
    simp only [List.mem_cons, List.not_mem_nil, or_false] at hx
    rcases hx with rfl | rfl | rfl
    ·have := hS.cuts; omega
    ·have := hS.kids; omega
    ·simp) (by simp) (fun x hx m hm => by
    simp only [List.mem_cons, List.not_mem_nil, or_false] at hx
    rcases hx with rfl | rfl | rfl
    ·exact hS.cv m hm
    ·exact hS.kv m hm
    ·simp only [List.mem_cons, List.not_mem_nil, or_false] at hm
     rcases hm with rfl | rfl
     ·exact hS.attr
     ·exact hS.leaf))]
   rfl
  obtain ⟨b, f1, f2⟩ := formed_any S hS
  simp only [table_Valid_l2, io_lt, io_len, hlt, decide_true, cond_true, idxG_some hx, Option.bind_some, htxt, io_eqi, io_not, io_add, wr_up (k := k) (by omega), wr_up (k := j) (by omega)]
  cases mlookD known (nkey N) false with
  | true => exact .inr ⟨.inr false, rfl, rfl⟩
  | false =>
   rw [f1]
   cases b with
   | false => exact .inr ⟨.inr false, rfl, rfl⟩
   | true =>
    obtain ⟨g1, g2⟩ := f2 rfl
    have hkk : k + 1 ≤ k0 := by
     rcases Nat.lt_or_eq_of_le i1 with h | h
     ·exact h
     ·subst h; rw [hk0] at hx; cases hx; exact absurd g1 hbad
    simp only [cond_false, Option.bind_some, Bool.not_true]
    by_cases hkd : N.Kids = []
    ·have h0 : ((N.Kids.length : Nat) : Int) = 0 := by rw [hkd]; rfl
     rw [decide_eq_true h0, cond_true]
     by_cases hle : N.Leaf = (j : Int)
     ·have hj : j < T.Leaves.length := by have := g2 hkd; omega
      have hgl : idxG T.Leaves (j : Int) = some T.Leaves[j] := idxG_some (by simp [hj])
      generalize T.Leaves[j] = d at hgl
      rw [decide_eq_true hle, Bool.not_true, cond_false, hgl]
      simp only [Option.bind_some]
      cases mlookD dec d false with
      | true => exact .inr ⟨.inr false, rfl, rfl⟩
      | false => exact .inl ⟨(mputG known (nkey N) true, mputG dec d true, ((j + 1 : Nat) : Int)), rfl, hkk, j + 1, rfl, by omega⟩
     ·exact .inr ⟨.inr false, by rw [decide_eq_false hle]; rfl, rfl⟩
    ·have h0 : ¬ ((N.Kids.length : Nat) : Int) = 0 := by
      have : N.Kids.length ≠ 0 := by simpa using hkd
      omega
     rw [decide_eq_false h0, cond_false]
     exact .inl ⟨(mputG known (nkey N) true, dec, (j : Int)), rfl, hkk, j, rfl, by omega⟩) (fun s hI => by
  have := hI.1; omega) ([], [], 0) ⟨Nat.zero_le _, 0, rfl, Nat.le_refl _⟩
 exact h1
theorem tabE_of {T : Table} (h : ∀ N ∈ T.Nodes, NdOk N) : ∃ t, T = tabE t ∧ ∀ n ∈ t.ns, Bd n := by
 obtain ⟨Ns, ls⟩ := T
 have key : ∀ l : List Node, (∀ N ∈ l, NdOk N) → ∃ m : List Nd, l = m.map encN ∧ ∀ n ∈ m, Bd n := by
  intro l
  induction l with
  | nil => exact fun _ => ⟨[], rfl, by simp⟩
  | cons N l ih =>
   intro h
   obtain ⟨m, rfl, hm⟩ := ih fun N hN => h N (List.mem_cons_of_mem _ hN)
   obtain ⟨n, rfl, hn⟩ := h N (by simp)
   exact ⟨n :: m, rfl, fun x hx => by
    rcases List.mem_cons.1 hx with rfl | hx
    ·exact hn
    ·exact hm x hx⟩
 obtain ⟨m, e, hm⟩ := key Ns h
 exact ⟨⟨m, ls⟩, by rw [tabE, ← e], hm⟩
theorem Valid_any {T : Table} (S : SmallT T) : table_Valid_g T = some false ∨ ∃ t : Tab Decision, T = tabE t ∧ (∀ n ∈ t.ns, Bd n) ∧ t.Canon limL ∧ table_Valid_g T = some true := by
 have hnn := S.nodes
 by_cases hok : ∀ N ∈ T.Nodes, NdOk N
 ·obtain ⟨t, rfl, hb⟩ := tabE_of hok
  obtain ⟨b, e, hv⟩ := Valid_tab hb (by have := S.leaves; show t.ls.length ≤ _; have e : (tabE t).Leaves.length = t.ls.length := rfl; omega)
  cases b with
  | false => exact .inl e
  | true => exact .inr ⟨t, rfl, hb, (hv.1 rfl).1, e⟩
 ·refine .inl ?_
  have : ∃ N ∈ T.Nodes, ¬ NdOk N := by
   refine Classical.byContradiction fun hno => hok fun N hN => Classical.byContradiction fun h => hno ⟨N, hN, h⟩
  obtain ⟨N, hN, hbad⟩ := this
  obtain ⟨k, hk⟩ := List.getElem?_of_mem hN
  have hlt := (List.getElem?_eq_some_iff.1 hk).1
  have hw := valid_bad S hk hbad
  unfold table_Valid_g
  have h1 : ¬ ((T.Nodes.length : Nat) : Int) < 1 := by omega
  have h2 : ¬ (20000 : Int) < ((T.Nodes.length : Nat) : Int) := by omega
  simp only [io_lt, io_len, decide_eq_false h1, decide_eq_false h2, cond_false, Option.bind_some, hw]
  rfl
end Go.SX.Td
