/-
  A region whose order is drawn, in which variables are laid and set: blocks of the region's own.
-/
import Derived.Test.YtlahdopmiplnoaaXSxM
namespace Go.SX
open Go Go.RowKit

def GOp.isBox (g : GOp) : Bool := match g.op with | .alloc .. | .store .. => true | _ => false

/-- What the region's other operations see of a variable's laying and setting: nothing. -/
def GOp.blank (g : GOp) : GOp :=
  match g.op with
  | .alloc .. => ⟨g.dst, .mv (.global 0), none⟩
  | .store _ _ v => ⟨none, .mv v, none⟩
  | _ => g

def noW (gs : List GOp) (p : Nat → Bool) (t : Nat) : Bool := (List.range gs.length).all fun i => p i || (match gs[i]? with | some g => !(g.dst == some t) | none => true)

def boxChk1 (n : Nat) (gs : List GOp) (k : Nat) : Bool :=
  match gs[k]? with
  | some g =>
    (match g.op with
     | .alloc _ z => g.guard.isNone && ((cval z).flat && ((cval z).cells.all SV.one && (match g.dst with | some d => Nat.blt d n && noW gs (fun i => Nat.beq i k) d | none => false)))
     | .store _ x v => g.guard.isNone && (g.dst.isNone && (match x with
        | .tmp d => ((List.range k).any fun i => match gs[i]? with | some gi => (match gi.op with | .alloc .. => gi.dst == some d | _ => false) | none => false) &&
            ((List.range gs.length).all (fun i => Nat.beq i k || (match gs[i]? with | some gi => (match gi.op with | .store _ (.tmp d') _ => !(Nat.beq d' d) | _ => true) | none => true)) &&
            (match v with | .tmp t => noW gs (fun i => Nat.blt i k) t | .const _ => true | _ => false))
        | _ => false))
     | _ => true)
  | none => true

def boxChk (n : Nat) (gs : List GOp) : Bool := (List.range gs.length).all (boxChk1 n gs)

/-- Where a variable is set. -/
def storeTo (d : Nat) : List GOp → Option (Nat × Operand)
  | [] => none
  | g :: l => match g.op with
    | .store sz (.tmp d') v => if Nat.beq d' d then some (sz, v) else storeTo d l
    | _ => storeTo d l

/-- What a variable of the region holds in the end. -/
def boxS (gs : List GOp) (own : List Res) (env : List SV) (d : Nat) (zs : List SV) : Option (List SV) :=
  match storeTo d gs with
  | none => some zs
  | some (sz, v) => (match (evn own env v).flat && (Nat.beq (evn own env v).cells.length sz && (Nat.beq sz zs.length && (evn own env v).cells.all SV.one)) with
    | true => some (evn own env v).cells
    | false => none)

def boxN (gs : List GOp) (env0 : List SV) (own0 : List Res) : List GOp → List SV → List Res → (List SV → List Res → Prop) → Prop
  | [], env, own, K => K env own
  | g :: l, env, own, K =>
    match g.op, g.dst with
    | .alloc ty z, some d => (match boxS gs own0 env0 d (cval z).cells with
      | some cs => boxN gs env0 own0 l (seti env d (.ptr own.length 0)) (own ++ [.cells cs ty]) K
      | none => False)
    | _, _ => boxN gs env0 own0 l env own K

section
variable {P : Program}

theorem nbF {i k : Nat} (h : i ≠ k) : Nat.beq i k = false := by
  cases hb : Nat.beq i k with
  | false => rfl
  | true => exact absurd (Nat.eq_of_beq_eq_true hb) h

theorem noW_spec {gs : List GOp} {p : Nat → Bool} {t : Nat} (h : noW gs p t = true) {i : Nat} {g : GOp} (hg : gs[i]? = some g) (hp : p i = false) : g.dst ≠ some t := by
  have hi := (List.getElem?_eq_some_iff.1 hg).1
  have := List.all_eq_true.1 h i (by simpa using hi)
  rw [hp, hg] at this
  simpa using this

theorem boxChk_alloc {n : Nat} {gs : List GOp} (h : boxChk n gs = true) {k : Nat} {g : GOp} {ty : TypeId} {z : Value} (hg : gs[k]? = some g) (ho : g.op = .alloc ty z) :
    g.guard = none ∧ (cval z).flat = true ∧ (cval z).cells.all SV.one = true ∧ ∃ d, g.dst = some d ∧ d < n ∧ ∀ (i : Nat) gi, i ≠ k → gs[i]? = some gi → gi.dst ≠ some d := by
  have hi := (List.getElem?_eq_some_iff.1 hg).1
  have h1 := List.all_eq_true.1 h k (by simpa using hi)
  simp only [boxChk1, hg, ho, Bool.and_eq_true] at h1
  obtain ⟨h1, h2, h3, h4⟩ := h1
  split at h4
  · rename_i d hd
    simp only [Bool.and_eq_true] at h4
    exact ⟨by simpa using h1, h2, h3, d, hd, by have := Nat.le_of_ble_eq_true h4.1; omega, fun i gi hik hgi => noW_spec h4.2 hgi (nbF hik)⟩
  · cases h4

theorem boxChk_store {n : Nat} {gs : List GOp} (h : boxChk n gs = true) {j : Nat} {g : GOp} {sz : Nat} {x v : Operand} (hg : gs[j]? = some g) (ho : g.op = .store sz x v) :
    g.guard = none ∧ g.dst = none ∧ ∃ d k gk ty z, x = .tmp d ∧ k < j ∧ gs[k]? = some gk ∧ gk.dst = some d ∧ gk.op = .alloc ty z ∧
      (∀ (i : Nat) gi sz' v', i ≠ j → gs[i]? = some gi → gi.op ≠ .store sz' (.tmp d) v') ∧ ((∃ t, v = .tmp t ∧ ∀ (i : Nat) gi, j ≤ i → gs[i]? = some gi → gi.dst ≠ some t) ∨ ∃ u, v = .const u) := by
  have hi := (List.getElem?_eq_some_iff.1 hg).1
  have h1 := List.all_eq_true.1 h j (by simpa using hi)
  simp only [boxChk1, hg, ho, Bool.and_eq_true] at h1
  obtain ⟨h1, h2, h3⟩ := h1
  split at h3
  · rename_i d
    simp only [Bool.and_eq_true] at h3
    obtain ⟨h3, h4, h5⟩ := h3
    obtain ⟨k, hk, hk2⟩ := List.any_eq_true.1 h3
    rw [List.mem_range] at hk
    split at hk2
    · rename_i gk hgk
      split at hk2
      · rename_i ty z hop
        refine ⟨by simpa using h1, by simpa using h2, d, k, gk, ty, z, rfl, hk, hgk, by simpa using hk2, hop, fun i gi sz' v' hij hgi e => ?_, ?_⟩
        · have hil := (List.getElem?_eq_some_iff.1 hgi).1
          have := List.all_eq_true.1 h4 i (by simpa using hil)
          rw [hgi] at this
          simp only [e] at this
          have hb : Nat.beq i j = false := nbF hij
          rw [hb] at this
          simp at this
        · split at h5
          · rename_i t
            exact .inl ⟨t, rfl, fun i gi hji hgi => noW_spec h5 hgi (by
              cases hb : Nat.blt i j with
              | false => rfl
              | true => have := Nat.le_of_ble_eq_true hb; omega)⟩
          · rename_i u; exact .inr ⟨u, rfl⟩
          · cases h5
      · cases hk2
    · cases hk2
  · cases h3

theorem storeTo_at {gs : List GOp} {d : Nat} : ∀ {j : Nat} {g : GOp} {sz : Nat} {v : Operand}, gs[j]? = some g → g.op = .store sz (.tmp d) v →
    (∀ (i : Nat) gi sz' v', i ≠ j → gs[i]? = some gi → gi.op ≠ .store sz' (.tmp d) v') → storeTo d gs = some (sz, v) := by
  induction gs with
  | nil => intro j g sz v h; simp at h
  | cons g0 gs ih =>
    intro j g sz v hg ho hu
    cases j with
    | zero =>
      simp at hg; subst hg
      simp only [storeTo, ho]
      have : Nat.beq d d = true := by simp []
      rw [if_pos this]
    | succ j =>
      have h0 : storeTo d (g0 :: gs) = storeTo d gs := by
        simp only [storeTo]
        split
        · rename_i sz' d' v' hop
          split
          · rename_i hb
            have : d' = d := by simpa [Nat.beq_eq] using hb
            subst this
            exact absurd hop (hu 0 g0 sz' v' (by omega) rfl)
          · rfl
        · rfl
      rw [h0]
      exact ih (j := j) (by simpa using hg) ho fun i gi sz' v' hij hgi => hu (i + 1) gi sz' v' (by omega) (by simpa using hgi)

theorem storeTo_none {gs : List GOp} {d : Nat} (h : storeTo d gs = none) : ∀ (j : Nat) g sz v, gs[j]? = some g → g.op ≠ .store sz (.tmp d) v := by
  induction gs with
  | nil => intro j g sz v hg; simp at hg
  | cons g0 gs ih =>
    intro j g sz v hg ho
    simp only [storeTo] at h
    cases j with
    | zero =>
      simp at hg; subst hg
      simp only [ho] at h
      have : Nat.beq d d = true := by simp []
      rw [if_pos this] at h; cases h
    | succ j =>
      refine ih ?_ j g sz v (by simpa using hg) ho
      split at h
      · split at h
        · cases h
        · exact h
      · exact h

theorem storeTo_mem {gs : List GOp} {d sz : Nat} {v : Operand} (h : storeTo d gs = some (sz, v)) : ∃ (j : Nat) (g : GOp), gs[j]? = some g ∧ g.op = .store sz (.tmp d) v := by
  induction gs with
  | nil => simp [storeTo] at h
  | cons g0 gs ih =>
    simp only [storeTo] at h
    split at h
    · rename_i sz' d' v' hop
      split at h
      · rename_i hb
        have : d' = d := by simpa [Nat.beq_eq] using hb
        subst this; cases h
        exact ⟨0, g0, rfl, hop⟩
      · obtain ⟨j, g, h1, h2⟩ := ih h; exact ⟨j + 1, g, by simpa using h1, h2⟩
    · obtain ⟨j, g, h1, h2⟩ := ih h; exact ⟨j + 1, g, by simpa using h1, h2⟩

theorem blank_dst {n : Nat} {gs : List GOp} (h : boxChk n gs = true) {k : Nat} {g : GOp} (hg : gs[k]? = some g) : g.blank.dst = g.dst := by
  unfold GOp.blank
  split
  · rfl
  · rename_i sz x v ho
    exact (boxChk_store h hg ho).2.1.symm
  · rfl

theorem blank_looks {g : GOp} {t : Nat} (h : t ∈ g.blank.looks) : t ∈ g.looks := by
  unfold GOp.blank at h
  split at h
  · simp [GOp.looks, DOp.ops, tmpsOf] at h
  · rename_i sz x v ho
    simp only [GOp.looks, DOp.ops, ho, List.append_nil, List.mem_append] at h ⊢
    left
    rw [mem_tmpsOf] at h ⊢
    simp at h ⊢; exact .inr h
  · exact h

/-- The cells of a block stand for symbolic values. -/
def CRel (c : Cx) (us : Array Value) (cs : List SV) : Prop := us.size = cs.length ∧ ∀ (i : Nat) s, cs[i]? = some s → ∃ u, us[i]? = some u ∧ u.oneCell' = true ∧ Rel c s u
theorem CRel.mono {c c' : Cx} (hle : c.le c') {us : Array Value} {cs : List SV} (h : CRel c us cs) : CRel c' us cs := ⟨h.1, fun i s hi => let ⟨u, h1, h2, h3⟩ := h.2 i s hi; ⟨u, h1, h2, h3.mono hle⟩⟩
theorem CRel.of {c : Cx} {own : List Res} {w : World} (hS : Sat c own w) {s : SV} {u : Value} (hr : Rel c s u) (hf : s.flat = true) (h1 : s.cells.all SV.one = true) : CRel c u.cells s.cells := by
  have hc := cells_rel hS.one hr hf
  have hone := all_one hS hc h1
  refine ⟨by have := hc.1; simpa using this, fun i t hi => ?_⟩
  have hlt : i < u.cells.size := by have := hc.1; have h2 := (List.getElem?_eq_some_iff.1 hi).1; simp at this; omega
  have hu : u.cells.toList[i]? = some u.cells[i] := by simp [hlt]
  exact ⟨u.cells[i], by simp [hlt], hone _ (by simp), hc.2 i t _ hi hu⟩

/-- A block that is neither owned nor known may turn. -/
theorem Sat.touch {c : Cx} {own : List Res} {w w' : World} {b : Nat} (h : Sat c own w) (hw : ∀ j, j ≠ b → w'.heap[j]? = w.heap[j]?) (hO : ¬ Own c own b) (hF : c.F b = none) : Sat c own w' where
  n := h.n
  res r x hx := (h.res r x hx).keep (.refl c) fun hl b' hb' => hw b' (fun e => hO (e ▸ ⟨r, x, hx, hl, hb'⟩))
  apart := h.apart
  notF := h.notF
  le b' o hb' := by rw [hw b' (fun e => by subst e; rw [hF] at hb'; cases hb')]; exact h.le b' o hb'
  one := h.one

/-- A block that nobody owns is owned from now on. -/
theorem Sat.adopt {c : Cx} {own : List Res} {w : World} {b : Nat} {x : Res} (h : Sat c own w) (hO : ¬ Own c own b) (hF : c.F b = none) (hres : ResOk (c.push (.pointer (some ⟨b, 0, none⟩))) w (.pointer (some ⟨b, 0, none⟩)) x) :
    Sat (c.push (.pointer (some ⟨b, 0, none⟩))) (own ++ [x]) w ∧ ∀ b', Own (c.push (.pointer (some ⟨b, 0, none⟩))) (own ++ [x]) b' → Own c own b' ∨ b' = b := by
  obtain ⟨v, hv⟩ : ∃ v : Value, v = .pointer (some ⟨b, 0, none⟩) := ⟨_, rfl⟩
  rw [← hv] at hres ⊢
  have hle := c.push_le v
  have hθN : (c.push v).θ c.N = v := by simp [Cx.push]
  have hget : ∀ (s : Nat) y, (own ++ [x])[s]? = some y → (s < c.N ∧ own[s]? = some y) ∨ (s = c.N ∧ y = x) := fun s y hy => by
    rw [List.getElem?_append] at hy
    split at hy
    · exact .inl ⟨by rw [← h.n]; assumption, hy⟩
    · rename_i hge
      have : s = c.N := by
        have := (List.getElem?_eq_some_iff.1 hy).1; simp at this; rw [← h.n]; omega
      subst this
      simp [h.n] at hy
      exact .inr ⟨rfl, hy.symm⟩
  have hbk : blkOf v = some b := by rw [hv]; rfl
  refine ⟨⟨by simp [Cx.push, h.n], ?_, ?_, ?_, h.le, ?_⟩, ?_⟩
  · intro r y hy
    rcases hget r y hy with ⟨hr, hy⟩ | ⟨rfl, rfl⟩
    · rw [hle.t r hr]; exact (h.res r y hy).keep hle fun _ _ _ => rfl
    · rw [hθN]; exact hres
  · intro r s y z b' hy hz hly hlz hb hb'
    rcases hget r y hy with ⟨hr, hy1⟩ | ⟨hr, _⟩
    · rw [hle.t r hr] at hb
      rcases hget s z hz with ⟨hs, hz1⟩ | ⟨hs, _⟩
      · rw [hle.t s hs] at hb'; exact h.apart r s y z b' hy1 hz1 hly hlz hb hb'
      · rw [hs, hθN, hbk] at hb'; cases hb'; exact absurd ⟨r, y, hy1, hly, hb⟩ hO
    · rw [hr, hθN, hbk] at hb; cases hb
      rcases hget s z hz with ⟨hs, hz1⟩ | ⟨hs, _⟩
      · rw [hle.t s hs] at hb'; exact absurd ⟨s, z, hz1, hlz, hb'⟩ hO
      · rw [hr, hs]
  · intro r y b' hy hly hb
    rcases hget r y hy with ⟨hr, hy⟩ | ⟨rfl, rfl⟩
    · rw [hle.t r hr] at hb; exact h.notF r y b' hy hly hb
    · rw [hθN, hbk] at hb; cases hb; exact hF
  · intro r
    simp only [Cx.push]
    split
    · rw [hv]; rfl
    · exact h.one r
  · rintro b' ⟨r, y, hy, hly, hb⟩
    rcases hget r y hy with ⟨hr, hy⟩ | ⟨rfl, rfl⟩
    · rw [hle.t r hr] at hb; exact .inl ⟨r, y, hy, hly, hb⟩
    · rw [hθN, hbk] at hb; cases hb; exact .inr rfl

/-- In the end the region's blocks are owned, in the order of the text. -/
theorem box_end {gs : List GOp} {env0 : List SV} {own0 : List Res} {n base : Nat} (_hbox : boxChk n gs = true) {a : Act} {w : World} {β : Nat → Nat} {K : List SV → List Res → Prop}
    (hinj : ∀ (k k' : Nat) g g' ty ty' z z', gs[k]? = some g → gs[k']? = some g' → g.op = .alloc ty z → g'.op = .alloc ty' z' → β k = β k' → k = k') :
    ∀ (l : List GOp) (k0 : Nat) {c : Cx} {env : List SV} {own : List Res}, (∀ i, l[i]? = gs[k0 + i]?) → Sat c own w → EnvOk c env a →
      (∀ (k : Nat) g ty z d, k0 ≤ k → gs[k]? = some g → g.op = .alloc ty z → g.dst = some d → a.tmps[d]? = some (.pointer (some ⟨β k, 0, none⟩)) ∧ base ≤ β k ∧ ¬ Own c own (β k) ∧ c.F (β k) = none ∧
        ∃ us, w.heap[β k]? = some (.cells us ty (0, 0)) ∧ ∀ cs, boxS gs own0 env0 d (cval z).cells = some cs → CRel c us cs) →
      boxN gs env0 own0 l env own K → ∃ c' env' own', Sat c' own' w ∧ EnvOk c' env' a ∧ c.le c' ∧ c'.F = c.F ∧ (∀ b, Own c' own' b → Own c own b ∨ base ≤ b) ∧ K env' own' := by
  intro l
  induction l with
  | nil => intro k0 c env own _ hS hE _ h; exact ⟨c, env, own, hS, hE, .refl c, rfl, fun b hb => .inl hb, h⟩
  | cons g l ih =>
    intro k0 c env own hl hS hE hB h
    have hg : gs[k0]? = some g := by have := hl 0; simpa using this.symm
    have hl' : ∀ i, l[i]? = gs[k0 + 1 + i]? := fun i => by
      have := hl (i + 1)
      rw [List.getElem?_cons_succ] at this
      rw [this]; congr 1; omega
    have hB' : ∀ (k : Nat) g ty z d, k0 + 1 ≤ k → gs[k]? = some g → g.op = .alloc ty z → g.dst = some d → a.tmps[d]? = some (.pointer (some ⟨β k, 0, none⟩)) ∧ base ≤ β k ∧ ¬ Own c own (β k) ∧ c.F (β k) = none ∧
        ∃ us, w.heap[β k]? = some (.cells us ty (0, 0)) ∧ ∀ cs, boxS gs own0 env0 d (cval z).cells = some cs → CRel c us cs := fun k g ty z d hk => hB k g ty z d (by omega)
    unfold boxN at h
    split at h
    · rename_i ty z d ho hd
      obtain ⟨h1, h2, h3, h4, us, h5, h6⟩ := hB k0 g ty z d (Nat.le_refl _) hg ho hd
      split at h
      · rename_i cs hcs
        have hcr := h6 cs hcs
        obtain ⟨k1, k2⟩ := hS.adopt (x := .cells cs ty) h3 h4 ⟨β k0, us, rfl, h5, hcr.1, fun i s hi => let ⟨u, m1, m2, m3⟩ := hcr.2 i s hi; ⟨u, m1, m2, m3.mono (c.push_le _)⟩⟩
        have hle := c.push_le (.pointer (some ⟨β k0, 0, none⟩))
        have hE2 : EnvOk (c.push (.pointer (some ⟨β k0, 0, none⟩))) (seti env d (.ptr own.length 0)) a := by
          refine ⟨by rw [seti_eq, List.length_set, hE.size], fun t s u hs hu => ?_⟩
          rw [seti_eq, List.getElem?_set] at hs
          split at hs
          · rename_i e; subst e
            split at hs
            · cases hs
              rw [h1] at hu; cases hu
              exact .ptr (by simp [Cx.push, hS.n]) (by simp [Cx.push, hS.n])
            · cases hs
          · exact (hE.rel t s u hs hu).mono hle
        obtain ⟨c', env', own', m1, m2, m3, m4, m5, m6⟩ := ih (k0 + 1) hl' k1 hE2 (fun k g' ty' z' d' hk hg' ho' hd' => by
          obtain ⟨n1, n2, n3, n4, us', n5, n6⟩ := hB k g' ty' z' d' (by omega) hg' ho' hd'
          refine ⟨n1, n2, fun hO => ?_, n4, us', n5, fun cs' hcs' => (n6 cs' hcs').mono hle⟩
          rcases k2 _ hO with hO | hO
          · exact n3 hO
          · have := hinj k k0 g' g ty' ty z' z hg' hg ho' ho hO; omega) h
        refine ⟨c', env', own', m1, m2, hle.trans m3, m4, fun b hb => ?_, m6⟩
        rcases m5 b hb with hb | hb
        · rcases k2 b hb with hb | hb
          · exact .inl hb
          · subst hb; exact .inr h2
        · exact .inr hb
      · exact h.elim
    · exact ih (k0 + 1) hl' hS hE hB' h

end
end Go.SX
