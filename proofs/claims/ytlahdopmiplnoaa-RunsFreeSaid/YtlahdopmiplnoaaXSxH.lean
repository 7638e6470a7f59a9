/-
  What is owed at an operation is enough: stores, new memory, append.
-/
import Derived.Test.YtlahdopmiplnoaaXSxG
namespace Go.SX
open Go

section
variable {P : Program} {c : Cx} {own : List Res} {env : List SV} {a : Act} {w w' : World} {o : Oper} {K : SV → List Res → Prop} {Q : Exit → Act → World → Prop}

theorem toD_rel (hS : Sat c own w) {s : SV} {u : Value} {d : D} (h : Rel c s u) (hd : toD own s = some d) : Rep c.F u d := by
  unfold toD at hd
  split at hd
  · cases hd; cases h with | d h => exact h
  · rename_i r
    split at hd
    · rename_i es hg
      cases hd
      cases h with | hd hr hv => rw [← hv]; exact hS.res r _ (getr_some hg (by simp))
    · cases hd
  · cases hd

theorem toDs_rel (hS : Sat c own w) (l : List SV) : ∀ {us : List Value} {ds : List D}, RelL c l us → toDs own l = some ds →
    ds.length = l.length ∧ ∀ (j : Nat) d, ds[j]? = some d → ∃ u, us[j]? = some u ∧ Rep c.F u d := by
  induction l with
  | nil => intro us ds _ hd; simp [toDs] at hd; subst hd; simp
  | cons s l ih =>
    intro us ds h hd
    obtain ⟨u, us', rfl, h1, h2⟩ := RelL.cons_iff.1 h
    unfold toDs at hd
    split at hd
    · rename_i d r hd1 hd2
      cases hd
      obtain ⟨hl, hr⟩ := ih h2 hd2
      refine ⟨by simp [hl], fun j d' hj => ?_⟩
      cases j with
      | zero => simp at hj; subst hj; exact ⟨u, rfl, toD_rel hS h1 hd1⟩
      | succ j => simp at hj; simpa using hr j d' hj
    · cases hd

theorem all_one (hS : Sat c own w) {l : List SV} {us : List Value} (h : RelL c l us) (h1 : l.all SV.one = true) : ∀ v ∈ us, v.oneCell' = true := by
  intro v hv
  obtain ⟨i, hi⟩ := List.getElem?_of_mem hv
  have hlt : i < l.length := by rw [← h.1]; exact (List.getElem?_eq_some_iff.1 hi).1
  exact (h.2 i l[i] v (by simp [hlt]) hi).one hS.one (List.all_eq_true.1 h1 _ (by simp))

theorem boxN_sound (hS : Sat c own w) {ty : TypeId} {s : SV} {u : Value} (hr : Rel c s u) (h : BoxN own ty s K) :
    Fin c own w a o.dst K (a.put o.dst (.pointer (some ⟨w.heap.size, 0, none⟩))) (w.alloc (.cells u.cells ty)) := by
  obtain ⟨hf, h1, hK⟩ := h
  have hc := cells_rel hS.one hr hf
  have hone := all_one hS hc h1
  obtain ⟨k1, k2, k3⟩ := hS.alloc (.cells u.cells ty) (.pointer (some ⟨w.heap.size, 0, none⟩)) (.cells s.cells ty) rfl rfl
    ⟨w.heap.size, u.cells, rfl, heap_alloc_new w _, by have := hc.1; simpa using this, fun i t hi => by
      have hlt : i < u.cells.size := by have := hc.1; have h2 := (List.getElem?_eq_some_iff.1 hi).1; simp at this; omega
      have hu : u.cells.toList[i]? = some u.cells[i] := by simp [hlt]
      exact ⟨u.cells[i], by simp [hlt], hone _ (by simp), (hc.2 i t _ hi hu).mono (c.push_le _)⟩⟩
  exact ⟨_, _, _, _, rfl, .ptr (by simp [Cx.push, hS.n]) (by simp [Cx.push, hS.n]), k1, k2, k3, hK⟩

theorem storeN_sound (hS : Sat c own w) {t sz : Nat} (hs : sizeB P t = some sz) {x v : SV} {u y : Value} {K : List Res → Prop} (hx : Rel c x u) (hv : Rel c v y) (h : StoreN own sz x v K) :
    ∃ w' own', (Instr.storeAt t u y).run P w = .ok () w' ∧ Sat c own' w' ∧ Goes c own w c own' w' ∧ K own' := by
  have key : ∀ (b k : Nat) (cur : Array Value) (ty : TypeId) (us : List Value), w.heap[b]? = some (.cells cur ty (0, 0)) → y.cells.toList = us → us.length = sz → k + sz ≤ cur.size → (∀ v ∈ us, v.oneCell' = true) →
      (Instr.storeAt t (.pointer (some ⟨b, k, none⟩)) y).run P w = .ok () (w.setRow b (Go.SX.splice k us cur.toList).toArray) := fun b k cur ty us hb hu hl hle h1 => by
    subst hu
    have := run_storeCells_at P b k ty y.cells.toList 0 cur w hb (by simp at hl ⊢; omega) h1
    simp only [Nat.add_zero] at this
    simp only [Instr.storeAt, Instr.sureAddr, Sem.run_bind, Sem.run_pure, Result.andThen_ok, storeVar, run_sizeOf hs]
    rw [if_neg (by simp at hl; simp [hl]), this]
    rfl
  unfold StoreN at h
  split at h
  · rename_i r k
    split at h
    · rename_i cs ty hg
      obtain ⟨hf, hl, h1, hle, hK⟩ := h
      have hx' := getr_some hg (by simp)
      obtain ⟨b, us, hv', hb, hsz, hc⟩ := hS.res r _ hx'
      cases hx with | @ptr _ _ b' hr ht =>
      rw [hv'] at ht; cases ht
      have hvc := cells_rel hS.one hv hf
      have hone := all_one hS hvc h1
      have hrun := key b k us ty _ hb rfl (by rw [hvc.1, hl]) (by rw [hsz]; exact hle) hone
      have hcur : RelL c cs us.toList := ⟨by simpa using hsz, fun i s u h1 h2 => by
        obtain ⟨u', hu', _, hr'⟩ := hc i s h1
        have : us.toList[i]? = some u' := by simpa using hu'
        rw [this] at h2; cases h2; exact hr'⟩
      have hnew := hcur.splice hvc k
      obtain ⟨k1, k2⟩ := hS.update (w' := w.setRow b (Go.SX.splice k y.cells.toList us.toList).toArray) (x' := .cells (Go.SX.splice k v.cells cs) ty) hx' rfl rfl (by rw [hv']; rfl) rfl rfl rfl (by simp) (fun j hj => setRow_other w b j _ hj)
        ⟨b, _, hv', setRow_heap w b us _ ty _ hb, by have := hnew.1; simpa using this, fun i s hi => by
          have hlt : i < (Go.SX.splice k y.cells.toList us.toList).length := by rw [hnew.1]; exact (List.getElem?_eq_some_iff.1 hi).1
          refine ⟨(Go.SX.splice k y.cells.toList us.toList)[i], by simp [hlt], ?_, hnew.2 i s _ hi (by simp [hlt])⟩
          have hm : (Go.SX.splice k y.cells.toList us.toList)[i] ∈ Go.SX.splice k y.cells.toList us.toList := by simp
          generalize (Go.SX.splice k y.cells.toList us.toList)[i] = z at hm
          simp only [Go.SX.splice, List.mem_append] at hm
          have hold : ∀ z ∈ us.toList, z.oneCell' = true := fun z hz => by
            obtain ⟨i, hi⟩ := List.getElem?_of_mem hz
            have hlt : i < cs.length := by rw [← hsz]; have := (List.getElem?_eq_some_iff.1 hi).1; simpa using this
            obtain ⟨u', hu', h1', _⟩ := hc i cs[i] (by simp [hlt])
            have : us.toList[i]? = some u' := by simpa using hu'
            rw [this] at hi; cases hi; exact h1'
          rcases hm with (hm | hm) | hm
          · exact hold z (List.mem_of_mem_take hm)
          · exact hone z hm
          · exact hold z (List.mem_of_mem_drop hm)⟩
      rw [setr_eq] at hK
      exact ⟨_, _, hrun, k1, k2, hK⟩
    · exact h.elim
  · rename_i r s i j
    split at h
    · rename_i ty s' es hg
      obtain ⟨rfl, hf, hl, hle, hi, ds', hds, hK⟩ := h
      have hx' := getr_some hg (by simp)
      obtain ⟨hd, us, ⟨hn, hv'⟩, hc⟩ := hS.res r _ hx'
      cases hx with | @rp _ _ _ _ b n cap hr ht =>
      rcases hv' with ⟨hv', _⟩ | ⟨b', cap', cur, hv', h0, hb, hcap, hm, hcs, htake⟩
      · rw [hv'] at ht; cases ht
      rw [hv'] at ht; cases ht
      have hvc := cells_rel hS.one hv hf
      obtain ⟨hdl, hdr⟩ := toDs_rel hS _ hvc hds
      have hone : ∀ z ∈ y.cells.toList, z.oneCell' = true := fun z hz => by
        obtain ⟨i, hi⟩ := List.getElem?_of_mem hz
        have hlt : i < ds'.length := by rw [hdl, ← hvc.1]; exact (List.getElem?_eq_some_iff.1 hi).1
        obtain ⟨u, hu, hr⟩ := hdr i ds'[i] (by simp [hlt])
        rw [hu] at hi; cases hi; exact hr.one
      have hin : i * s + s ≤ es.length * s := by rw [← Nat.succ_mul]; exact Nat.mul_le_mul_right _ hi
      have hlec : es.length * s ≤ cur.size := by rw [hcs]; exact Nat.mul_le_mul_right _ hcap
      have hrun := key b (i * s + j) cur ty _ hb rfl (by rw [hvc.1, hl]) (by omega) hone
      have hget : es[i]? = some es[i] := by simp [hi]
      have hesi : es[i].length = s := hd _ (by simp)
      have hdl' : ds'.length = sz := by rw [hdl, hl]
      have hspl : (Go.SX.splice j ds' es[i]).length = s := by simp only [Go.SX.splice, List.length_append, List.length_take, List.length_drop, hesi, hdl']; omega
      have hd2 : ∀ ds ∈ es.set i (Go.SX.splice j ds' es[i]), ds.length = s := fun ds hm => by
        rcases List.mem_or_eq_of_mem_set hm with h1 | h1
        · exact hd ds h1
        · rw [h1]; exact hspl
      have hyl : y.cells.toList.length = sz := by rw [hvc.1, hl]
      obtain ⟨k1, k2⟩ := hS.update (w' := w.setRow b (Go.SX.splice (i * s + j) y.cells.toList cur.toList).toArray) (x' := .row ty s (es.set i (Go.SX.splice j ds' es[i]))) hx' rfl rfl (by rw [hv']; rfl) rfl rfl rfl (by simp) (fun j hj => setRow_other w b j _ hj)
        ⟨hd2, (Go.SX.splice (i * s + j) y.cells.toList cur.toList).take (es.length * s), ⟨by
            simp only [Go.SX.splice, List.length_take, List.length_append, List.length_drop, hyl, List.length_set, Array.length_toList]; omega,
          .inr ⟨b, _, _, by rw [hv', List.length_set], h0, setRow_heap w b cur _ ty _ hb, by simpa using hcap, hm, by
            simp only [List.size_toArray, Go.SX.splice, List.length_append, List.length_take, List.length_drop, hyl, Array.length_toList]; omega, by simp⟩⟩, fun q d hq => by
          -- cell q: element q / s, cell q % s
          have hspos : 0 < s := by
            rcases Nat.eq_zero_or_pos s with h0 | h0
            · subst h0
              have : (es.set i (Go.SX.splice j ds' es[i])).flatten.length = 0 := by rw [flatten_len hd2]; simp
              rw [List.eq_nil_of_length_eq_zero this] at hq; simp at hq
            · exact h0
          have hql : q < es.length * s := by
            have := (List.getElem?_eq_some_iff.1 hq).1
            rw [flatten_len hd2, List.length_set] at this; exact this
          have hqd : q / s < es.length := (Nat.div_lt_iff_lt_mul hspos).2 hql
          have hqm : q % s < s := Nat.mod_lt _ hspos
          have hqe : q / s * s + q % s = q := by rw [Nat.mul_comm]; exact Nat.div_add_mod q s
          have hold : ∀ (p : Nat) d, es.flatten[p]? = some d → ∃ u, cur[p]? = some u ∧ Rep c.F u d := fun p d hp => by
            obtain ⟨u, h1, h2⟩ := hc p d hp
            refine ⟨u, ?_, h2⟩
            rw [← htake, List.getElem?_take] at h1
            split at h1
            · simpa using h1
            · cases h1
          rw [List.getElem?_take, if_pos hql]
          have hset : (es.set i (Go.SX.splice j ds' es[i]))[q / s]? = some (if i = q / s then Go.SX.splice j ds' es[i] else es[q / s]) := by
            rw [List.getElem?_set]
            split
            · first | rfl | (rw [if_pos (by omega)]) | simp [hi]
            · simp [hqd]
          have hfl := flatten_get hd2 (q / s) (q % s) _ hset hqm
          rw [hqe, hq] at hfl
          by_cases hiq : i = q / s
          · rw [if_pos hiq] at hfl
            -- the element that was written
            have hq1 : q = i * s + q % s := by rw [hiq]; exact hqe.symm
            simp only [Go.SX.splice, List.append_assoc] at hfl ⊢
            by_cases c1 : q % s < j
            · rw [List.getElem?_append_left (by simp [hesi]; omega), List.getElem?_take, if_pos c1] at hfl
              rw [List.getElem?_append_left (by simp; omega), List.getElem?_take, if_pos (by omega)]
              obtain ⟨u, h1, h2⟩ := hold q d (by rw [hq1, flatten_get hd i (q % s) _ hget hqm]; exact hfl.symm)
              exact ⟨u, by simpa using h1, h2⟩
            · rw [List.getElem?_append_right (by simp; omega)] at hfl
              rw [List.getElem?_append_right (by simp; omega)]
              have e1 : q % s - (List.take j es[i]).length = q % s - j := by simp [hesi]; omega
              have e2 : q - (List.take (i * s + j) cur.toList).length = q % s - j := by simp; omega
              rw [e1] at hfl; rw [e2]
              by_cases c2 : q % s - j < sz
              · rw [List.getElem?_append_left (by omega)] at hfl
                rw [List.getElem?_append_left (by omega)]
                obtain ⟨u, h1, h2⟩ := hdr _ d hfl.symm
                exact ⟨u, h1, h2⟩
              · rw [List.getElem?_append_right (by omega), List.getElem?_drop] at hfl
                rw [List.getElem?_append_right (by omega), List.getElem?_drop]
                have e3 : j + ds'.length + (q % s - j - ds'.length) = q % s := by omega
                have e4 : i * s + j + y.cells.toList.length + (q % s - j - y.cells.toList.length) = q := by omega
                rw [e3] at hfl; rw [e4]
                obtain ⟨u, h1, h2⟩ := hold q d (by rw [hq1, flatten_get hd i (q % s) _ hget hqm]; exact hfl.symm)
                exact ⟨u, by simpa using h1, h2⟩
          · rw [if_neg hiq] at hfl
            obtain ⟨u, h1, h2⟩ := hold q d (by rw [← hqe, flatten_get hd (q / s) (q % s) es[q / s] (by simp [hqd]) hqm]; exact hfl.symm)
            refine ⟨u, ?_, h2⟩
            simp only [Go.SX.splice, List.append_assoc]
            have hsplit : q < i * s ∨ i * s + s ≤ q := by
              rcases Nat.lt_or_gt_of_ne hiq with h | h
              · right; calc i * s + s = (i + 1) * s := by rw [Nat.succ_mul]
                  _ ≤ q / s * s := Nat.mul_le_mul_right _ h
                  _ ≤ q := Nat.div_mul_le_self q s
              · left; exact (Nat.div_lt_iff_lt_mul hspos).1 h
            have e0 : (List.take (i * s + j) cur.toList).length = i * s + j := by rw [List.length_take, Array.length_toList]; omega
            rcases hsplit with h | h
            · rw [List.getElem?_append_left (by simp; omega), List.getElem?_take, if_pos (by omega)]; simpa using h1
            · rw [List.getElem?_append_right (by omega), List.getElem?_append_right (by omega), List.getElem?_drop]
              have e5 : i * s + j + y.cells.toList.length + (q - (List.take (i * s + j) cur.toList).length - y.cells.toList.length) = q := by omega
              rw [e5]; simpa using h1⟩
      have := hK _ hget
      rw [setr_eq] at this
      exact ⟨_, _, hrun, k1, k2, this⟩
    · exact h.elim
  · exact h.elim

end
end Go.SX
