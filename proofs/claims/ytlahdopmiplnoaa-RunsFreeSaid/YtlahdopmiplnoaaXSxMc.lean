/-
  .. and whatever order the tape picks, it ends in one frame.
-/
import Derived.Test.YtlahdopmiplnoaaXSxMb
namespace Go.SX
open Go Go.RowKit

def BoxOk (base : Nat) (gs : List GOp) (svs : List SV) (L : Nat → Bool) (c : Cx) (own : List Res) (a : Act) (w : World) (β : Nat → Nat) : Prop :=
  (∀ (k : Nat) g ty z d, gs[k]? = some g → g.op = .alloc ty z → g.dst = some d → L k = true →
    a.tmps[d]? = some (.pointer (some ⟨β k, 0, none⟩)) ∧ base ≤ β k ∧ β k < w.heap.size ∧ ¬ Own c own (β k) ∧ c.F (β k) = none ∧
    ∃ us, w.heap[β k]? = some (.cells us ty (0, 0)) ∧ us.size = (cval z).cells.length ∧
      ((∀ (j : Nat) gj sz v, gs[j]? = some gj → gj.op = .store sz (.tmp d) v → L j = false) → CRel c us (cval z).cells) ∧
      (∀ (j : Nat) gj sz v sv, gs[j]? = some gj → gj.op = .store sz (.tmp d) v → L j = true → svs[j]? = some sv → CRel c us sv.cells)) ∧
  (∀ (k k' : Nat) g g' ty ty' z z', gs[k]? = some g → gs[k']? = some g' → g.op = .alloc ty z → g'.op = .alloc ty' z' → L k = true → L k' = true → β k = β k' → k = k')

section
variable {P : Program}

theorem put_tmps {a : Act} {d : Option Nat} {u : Value} {t : Nat} (h : d ≠ some t) : (a.put d u).tmps[t]? = a.tmps[t]? := by
  cases d with
  | none => rfl
  | some d => simp only [Act.put, Array.getElem?_setIfInBounds]; rw [if_neg (fun e => h (by rw [e]))]

theorem BoxOk.pure {base n : Nat} {gs : List GOp} {svs : List SV} {L : Nat → Bool} {c c' : Cx} {own : List Res} {a : Act} {w w' : World} {β : Nat → Nat} {i : Nat} {g : GOp} {u : Value} (hbox : boxChk n gs = true) (h : BoxOk base gs svs L c own a w β)
    (hg : gs[i]? = some g) (hna : g.isBox = false) (hle : c.le c') (hgo : Goes c own w c' own w') : BoxOk base gs svs (fun j => if j = i then true else L j) c' own (a.put g.dst u) w' β := by
  have hk : ∀ (k : Nat) g' ty z, gs[k]? = some g' → g'.op = .alloc ty z → k ≠ i := fun k g' ty z hg' ho e => by
    subst e; rw [hg] at hg'; cases hg'; simp [GOp.isBox, ho] at hna
  have hj : ∀ (k : Nat) g' sz x v, gs[k]? = some g' → g'.op = .store sz x v → k ≠ i := fun k g' sz x v hg' ho e => by
    subst e; rw [hg] at hg'; cases hg'; simp [GOp.isBox, ho] at hna
  refine ⟨fun k g' ty z d hg' ho hd hL => ?_, fun k k' g1 g2 ty ty' z z' h1 h2 h3 h4 h5 h6 => ?_⟩
  · have hki := hk k g' ty z hg' ho
    simp only [if_neg hki] at hL
    obtain ⟨h1, h2, h3, h4, h5, us, h6, h7, h8, h9⟩ := h.1 k g' ty z d hg' ho hd hL
    obtain ⟨_, _, _, d', hd', _, hun⟩ := boxChk_alloc hbox hg' ho
    rw [hd] at hd'; cases hd'
    refine ⟨by rw [put_tmps (hun i g (Ne.symm hki) hg)]; exact h1, h2, Nat.lt_of_lt_of_le h3 hgo.size, fun hO => ?_, ?_, us, by rw [hgo.keep _ h3 h4]; exact h6, h7, fun hs => (h8 fun j gj sz v hgj hoj => ?_).mono hle, fun j gj sz v sv hgj hoj hLj hsv => (h9 j gj sz v sv hgj hoj ?_ hsv).mono hle⟩
    · rcases hgo.newO _ hO with hO | hO
      · exact h4 hO
      · omega
    · cases hc : c'.F (β k) with
      | none => rfl
      | some o =>
        rcases hgo.newF (β k) (by simp [hc]) with h | h | h
        · exact absurd h5 h
        · omega
        · exact absurd h h4
    · have := hs j gj sz v hgj hoj
      simpa only [if_neg (hj j gj _ _ _ hgj hoj)] using this
    · simpa only [if_neg (hj j gj _ _ _ hgj hoj)] using hLj
  · simp only [if_neg (hk k g1 ty z h1 h3)] at h5
    simp only [if_neg (hk k' g2 ty' z' h2 h4)] at h6
    exact h.2 k k' g1 g2 ty ty' z z' h1 h2 h3 h4 h5 h6

theorem BoxOk.alloc {base n : Nat} {gs : List GOp} {svs : List SV} {L : Nat → Bool} {c : Cx} {own : List Res} {a : Act} {w : World} {β : Nat → Nat} {i : Nat} {g : GOp} {ty : TypeId} {z : Value} {d : Nat} (hbox : boxChk n gs = true) (hS : Sat c own w) (h : BoxOk base gs svs L c own a w β)
    (hg : gs[i]? = some g) (ho : g.op = .alloc ty z) (hd : g.dst = some d) (hdt : d < a.tmps.size) (hb : base ≤ w.heap.size) (hLi : L i = false)
    (hst : ∀ (j : Nat) gj sz v, gs[j]? = some gj → gj.op = .store sz (.tmp d) v → L j = false) :
    BoxOk base gs svs (fun j => if j = i then true else L j) c own (a.put (some d) (.pointer (some ⟨w.heap.size, 0, none⟩))) (w.alloc (.cells z.cells ty)) (fun k => if k = i then w.heap.size else β k) := by
  obtain ⟨_, hfl, hone, d0, hd0, _, hun⟩ := boxChk_alloc hbox hg ho
  rw [hd] at hd0; cases hd0
  have hnew : ∀ b, Own c own b ∨ c.F b ≠ none → b < w.heap.size := fun b hb => by
    rcases hb with hb | hb
    · exact hS.blk_lt hb
    · cases hc : c.F b with
      | none => exact absurd hc hb
      | some o => exact hS.F_lt hc
  have hns : ∀ (j : Nat) gj sz x v, gs[j]? = some gj → gj.op = .store sz x v → j ≠ i := fun j gj sz x v hgj hoj e => by
    subst e; rw [hg] at hgj; cases hgj; rw [ho] at hoj; cases hoj
  refine ⟨fun k g' ty' z' d' hg' ho' hd' hL => ?_, fun k k' g1 g2 ty1 ty2 z1 z2 h1 h2 h3 h4 h5 h6 h7 => ?_⟩
  · by_cases hki : k = i
    · subst hki
      rw [hg] at hg'; cases hg'
      rw [ho] at ho'; cases ho'
      rw [hd] at hd'; cases hd'
      simp only [if_true]
      have hcr : CRel c z.cells (cval z).cells := .of hS (cval_rel c z) hfl hone
      refine ⟨by simp [Act.put, hdt], hb, by simp, fun hO => by have := hnew _ (.inl hO); omega, ?_, z.cells, heap_alloc_new w _, hcr.1, fun _ => hcr, fun j gj sz v sv hgj hoj hLj _ => ?_⟩
      · cases hc : c.F w.heap.size with
        | none => rfl
        | some o => have := hS.F_lt hc; omega
      · simp only [if_neg (hns j gj _ _ _ hgj hoj)] at hLj
        rw [hst j gj sz v hgj hoj] at hLj; cases hLj
    · simp only [if_neg hki] at hL ⊢
      obtain ⟨h1, h2, h3, h4, h5, us, h6, h7, h8, h9⟩ := h.1 k g' ty' z' d' hg' ho' hd' hL
      have hdd : some d ≠ some d' := fun e => by
        cases e; exact hun k g' hki hg' hd'
      refine ⟨by rw [put_tmps hdd]; exact h1, h2, by simp; omega, h4, h5, us, by rw [Below.heap_alloc w _ _ h3]; exact h6, h7, fun hs => h8 fun j gj sz v hgj hoj => ?_, fun j gj sz v sv hgj hoj hLj hsv => h9 j gj sz v sv hgj hoj ?_ hsv⟩
      · have := hs j gj sz v hgj hoj
        simpa only [if_neg (hns j gj _ _ _ hgj hoj)] using this
      · simpa only [if_neg (hns j gj _ _ _ hgj hoj)] using hLj
  · have lt : ∀ (k : Nat) g' ty' z', gs[k]? = some g' → g'.op = .alloc ty' z' → k ≠ i → L k = true → β k < w.heap.size := fun k g' ty' z' hg' ho' hki hL => by
      obtain ⟨_, _, _, d', hd', _, _⟩ := boxChk_alloc hbox hg' ho'
      exact (h.1 k g' ty' z' d' hg' ho' hd' hL).2.2.1
    by_cases hki : k = i
    · by_cases hki' : k' = i
      · omega
      · simp only [if_neg hki'] at h6
        simp only [if_pos hki, if_neg hki'] at h7
        have := lt k' g2 ty2 z2 h2 h4 hki' h6; omega
    · simp only [if_neg hki] at h5
      by_cases hki' : k' = i
      · simp only [if_neg hki, if_pos hki'] at h7
        have := lt k g1 ty1 z1 h1 h3 hki h5; omega
      · simp only [if_neg hki'] at h6
        simp only [if_neg hki, if_neg hki'] at h7
        exact h.2 k k' g1 g2 ty1 ty2 z1 z2 h1 h2 h3 h4 h5 h6 h7

theorem BoxOk.store {base n : Nat} {gs : List GOp} {svs : List SV} {L : Nat → Bool} {c : Cx} {own : List Res} {a : Act} {w w' : World} {β : Nat → Nat} {i k0 : Nat} {g gk : GOp} {sz d : Nat} {v : Operand} {ty0 : TypeId} {z0 : Value} {us0 : Array Value} {sv0 : SV} (hbox : boxChk n gs = true) (h : BoxOk base gs svs L c own a w β)
    (hg : gs[i]? = some g) (ho : g.op = .store sz (.tmp d) v) (hk : gs[k0]? = some gk) (hok : gk.op = .alloc ty0 z0) (hdk : gk.dst = some d) (hLk : L k0 = true) (hsize : w'.heap.size = w.heap.size)
    (hw : ∀ j, j ≠ β k0 → w'.heap[j]? = w.heap[j]?) (hw0 : w'.heap[β k0]? = some (.cells us0 ty0 (0, 0))) (hus : us0.size = (cval z0).cells.length) (hsv : svs[i]? = some sv0) (hcr : CRel c us0 sv0.cells) :
    BoxOk base gs svs (fun j => if j = i then true else L j) c own a w' β := by
  have hka : ∀ (k : Nat) g' ty z, gs[k]? = some g' → g'.op = .alloc ty z → k ≠ i := fun k g' ty z hg' ho' e => by
    subst e; rw [hg] at hg'; cases hg'; rw [ho] at ho'; cases ho'
  obtain ⟨_, _, d', k', gk', ty', z', hx, _, _, _, _, hone, _⟩ := boxChk_store hbox hg ho
  cases hx
  refine ⟨fun k g' ty z dd hg' ho' hd' hL => ?_, fun k k' g1 g2 ty ty' z z' h1 h2 h3 h4 h5 h6 => ?_⟩
  · have hki := hka k g' ty z hg' ho'
    simp only [if_neg hki] at hL
    obtain ⟨h1, h2, h3, h4, h5, us, h6, h7, h8, h9⟩ := h.1 k g' ty z dd hg' ho' hd' hL
    by_cases hkk : k = k0
    · subst hkk
      rw [hk] at hg'; cases hg'
      rw [hok] at ho'; cases ho'
      rw [hdk] at hd'; cases hd'
      refine ⟨h1, h2, by omega, h4, h5, us0, hw0, hus, fun hs => ?_, fun j gj sz' v' sv hgj hoj hLj hsvj => ?_⟩
      · have := hs i g sz v hg ho; simp at this
      · by_cases hji : j = i
        · subst hji; rw [hsv] at hsvj; cases hsvj; exact hcr
        · exact absurd hoj (hone j gj sz' v' hji hgj)
    · have hdne : dd ≠ d := fun e => by
        subst e
        obtain ⟨_, _, _, d2, hd2, _, hun⟩ := boxChk_alloc hbox hk hok
        rw [hdk] at hd2; cases hd2
        exact hun k g' hkk hg' hd'
      have hsne : ∀ (j : Nat) gj sz' v', gs[j]? = some gj → gj.op = .store sz' (.tmp dd) v' → j ≠ i := fun j gj sz' v' hgj hoj e => by
        subst e; rw [hg] at hgj; cases hgj; rw [ho] at hoj; cases hoj; exact hdne rfl
      have hbne : β k ≠ β k0 := fun e => hkk (h.2 k k0 g' gk ty ty0 z z0 hg' hk ho' hok hL hLk e)
      refine ⟨h1, h2, by omega, h4, h5, us, by rw [hw _ hbne]; exact h6, h7, fun hs => h8 fun j gj sz' v' hgj hoj => ?_, fun j gj sz' v' sv hgj hoj hLj hsvj => h9 j gj sz' v' sv hgj hoj ?_ hsvj⟩
      · have := hs j gj sz' v' hgj hoj
        simpa only [if_neg (hsne j gj _ _ hgj hoj)] using this
      · simpa only [if_neg (hsne j gj _ _ hgj hoj)] using hLj
  · simp only [if_neg (hka k g1 ty z h1 h3)] at h5
    simp only [if_neg (hka k' g2 ty' z' h2 h4)] at h6
    exact h.2 k k' g1 g2 ty ty' z z' h1 h2 h3 h4 h5 h6

theorem boxN_some {gs : List GOp} {env0 : List SV} {own0 : List Res} {K : List SV → List Res → Prop} : ∀ (l : List GOp) {env : List SV} {own : List Res}, boxN gs env0 own0 l env own K →
    ∀ (k : Nat) g ty z d, l[k]? = some g → g.op = .alloc ty z → g.dst = some d → ∃ cs, boxS gs own0 env0 d (cval z).cells = some cs
  | [], env, own, _, k, g, ty, z, d, hg, _, _ => by simp at hg
  | g0 :: l, env, own, h, k, g, ty, z, d, hg, ho, hd => by
    unfold boxN at h
    cases k with
    | zero =>
      simp at hg; subst hg
      simp only [ho, hd] at h
      split at h
      · rename_i cs hcs; exact ⟨cs, hcs⟩
      · exact h.elim
    | succ k =>
      simp at hg
      split at h
      · split at h
        · exact boxN_some l h k g ty z d hg ho hd
        · exact h.elim
      · exact boxN_some l h k g ty z d hg ho hd

/-- A variable is set whole. -/
theorem store_run {w : World} {t sz b : Nat} {ty : TypeId} {cur : Array Value} {y : Value} (hs : sizeB P t = some sz) (hb : w.heap[b]? = some (.cells cur ty (0, 0))) (hl : y.cells.size = sz) (hsz : cur.size = sz) (h1 : ∀ v ∈ y.cells.toList, v.oneCell' = true) :
    (Instr.storeAt t (.pointer (some ⟨b, 0, none⟩)) y).run P w = .ok () (w.setRow b y.cells) := by
  have := run_storeCells_at P b 0 ty y.cells.toList 0 cur w hb (by simp; omega) h1
  simp only [Nat.add_zero] at this
  simp only [Instr.storeAt, Instr.sureAddr, Sem.run_bind, Sem.run_pure, Result.andThen_ok, storeVar, run_sizeOf hs]
  rw [if_neg (by simp [hl]), this]
  congr 2
  apply Array.toList_inj.1
  simp; omega

end
end Go.SX
