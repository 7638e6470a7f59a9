/-
  What is owed at an operation is enough: slice literals, append, make, subslices.
-/
import Derived.Test.YtlahdopmiplnoaaXSxH
namespace Go.SX
open Go

section
variable {P : Program} {c : Cx} {own : List Res} {env : List SV} {a : Act} {w w' : World} {o : Oper} {K : SV → List Res → Prop} {Q : Exit → Act → World → Prop}

theorem bsl_fill (hS : Sat c own w) {sz : Nat} (ps : List (Nat × SV)) : ∀ (k : Nat) (es : List (List D)) (vs : List (Nat × Value)) (cells : Array Value), bsl own sz k ps = some es → vs.length = ps.length →
    (∀ (i : Nat) p v, ps[i]? = some p → vs[i]? = some v → v.1 = p.1 ∧ Rel c p.2 v.2) → (k + ps.length) * sz ≤ cells.size →
    ∃ cells', Instr.fill (fun i => some (i * sz, sz)) cells vs = some cells' ∧ cells'.size = cells.size ∧ cells'.toList.take (k * sz) = cells.toList.take (k * sz) ∧ es.length = ps.length ∧ (∀ ds ∈ es, ds.length = sz) ∧
      ∀ (j : Nat) d, es.flatten[j]? = some d → ∃ u, cells'[k * sz + j]? = some u ∧ Rep c.F u d := by
  induction ps with
  | nil =>
    intro k es vs cells h hl _ _
    simp at hl; subst hl
    simp [bsl] at h; subst h
    exact ⟨cells, rfl, rfl, rfl, rfl, by simp, by simp⟩
  | cons p ps ih =>
    intro k es vs cells h hl hp hsz
    obtain ⟨i, s⟩ := p
    cases vs with
    | nil => simp at hl
    | cons v vs =>
      obtain ⟨i', v⟩ := v
      obtain ⟨rfl, hr⟩ := hp 0 _ _ rfl rfl
      simp only [bsl] at h
      split at h
      · rename_i hcond
        obtain ⟨hk, hf, hlen⟩ := hcond
        subst hk
        split at h
        · rename_i ds r hd1 hd2
          cases h
          simp only [List.length_cons] at hsz hl
          have hvc := cells_rel hS.one hr hf
          obtain ⟨hdl, hdr⟩ := toDs_rel hS _ hvc hd1
          have hvl : v.cells.toList.length = sz := by rw [hvc.1, hlen]
          have hfit : i' * sz + sz ≤ cells.size := by
            have : (i' + 1) * sz ≤ (i' + (ps.length + 1)) * sz := Nat.mul_le_mul_right _ (by omega)
            rw [Nat.add_mul, Nat.one_mul] at this; omega
          have hfold := zip_fold v.cells.toList 0 (i' * sz) cells (by omega)
          simp only [Nat.add_zero] at hfold
          have hsize1 : (v.cells.zipIdx.foldl (fun cs x => cs.setIfInBounds (i' * sz + x.2) x.1) cells).size = cells.size := by
            rw [← Array.foldl_toList, Array.toList_zipIdx, ← Array.length_toList, hfold]
            simp only [List.length_append, List.length_take, List.length_drop, Array.length_toList, hvl]; simp at hvl; omega
          obtain ⟨cells', h1, h2, h3, h4, h5, h6⟩ := ih (i' + 1) r vs (v.cells.zipIdx.foldl (fun cs x => cs.setIfInBounds (i' * sz + x.2) x.1) cells) hd2 (by omega) (fun i p v h1 h2 => hp (i + 1) p v (by simpa using h1) (by simpa using h2)) (by
            rw [hsize1]; have : i' + 1 + ps.length = i' + (ps.length + 1) := by omega
            rw [this]; exact hsz)
          have hlist1 : (v.cells.zipIdx.foldl (fun cs x => cs.setIfInBounds (i' * sz + x.2) x.1) cells).toList = cells.toList.take (i' * sz) ++ v.cells.toList ++ cells.toList.drop (i' * sz + v.cells.toList.length) := by
            rw [← Array.foldl_toList, Array.toList_zipIdx, hfold]
          have e1 : (i' + 1) * sz = i' * sz + sz := by rw [Nat.add_mul, Nat.one_mul]
          have e0 : (cells.toList.take (i' * sz)).length = i' * sz := by rw [List.length_take, Array.length_toList]; omega
          have htake : cells'.toList.take (i' * sz + sz) = cells.toList.take (i' * sz) ++ v.cells.toList := by
            rw [← e1, h3, hlist1, e1]
            exact List.take_left' (by rw [List.length_append, e0, hvl])
          refine ⟨cells', ?_, by rw [h2, hsize1], ?_, by simp [h4], ?_, ?_⟩
          · simp only [Instr.fill]
            rw [if_neg (by simp at hvl; simp [hvl]; omega)]
            exact h1
          · have : (cells'.toList.take (i' * sz + sz)).take (i' * sz) = cells'.toList.take (i' * sz) := by rw [List.take_take]; congr 1; omega
            rw [← this, htake, List.take_append, List.take_of_length_le (by omega), e0]; simp
          · intro d hd
            simp at hd
            rcases hd with rfl | hd
            · rw [hdl, hlen]
            · exact h5 d hd
          · intro j d hj
            rw [List.flatten_cons] at hj
            by_cases hjs : j < sz
            · rw [List.getElem?_append_left (by rw [hdl, hlen]; exact hjs)] at hj
              obtain ⟨u, hu, hru⟩ := hdr j d hj
              refine ⟨u, ?_, hru⟩
              have : cells'.toList[i' * sz + j]? = (cells'.toList.take (i' * sz + sz))[i' * sz + j]? := by rw [List.getElem?_take, if_pos (by omega)]
              rw [← Array.getElem?_toList, this, htake, List.getElem?_append_right (by omega), e0]
              rw [Nat.add_sub_cancel_left]; exact hu
            · rw [List.getElem?_append_right (by rw [hdl, hlen]; omega), hdl, hlen] at hj
              obtain ⟨u, hu, hru⟩ := h6 _ d hj
              refine ⟨u, ?_, hru⟩
              rw [e1] at hu
              have : i' * sz + sz + (j - sz) = i' * sz + j := by omega
              rwa [this] at hu
        · cases h
      · cases h

theorem bsl_len {sz : Nat} (ps : List (Nat × SV)) : ∀ (k : Nat) (es : List (List D)), bsl own sz k ps = some es → es.length = ps.length := by
  induction ps with
  | nil => intro k es h; simp [bsl] at h; subst h; rfl
  | cons p ps ih =>
    intro k es h
    obtain ⟨i, s⟩ := p
    simp only [bsl] at h
    split at h
    · split at h
      · rename_i ds r h1 h2; cases h; simp [ih _ _ h2]
      · cases h
    · cases h

theorem bslice_run (hS : Sat c own w) {t e sz n : Nat} {ps : List (Nat × Operand)} {f : Operand → SV} (ht : P.underlying t = some (.slice e)) (hs : sizeB P e = some sz) {z : Value} (hz : zeroB P e = some z) (h0 : sz ≠ 0)
    (hf : ∀ x, Rel c (f x) (a.eval x)) {es : List (List D)} (hb : bsl own sz 0 (ps.map fun p => (p.1, f p.2)) = some es) (hlen : es.length = n) (hle : n * sz ≤ 16777216) :
    ∃ cells', (Instr.buildSlice t n (ps.map fun p => (p.1, a.eval p.2)).toArray).run P w = .ok (.slice (some ⟨w.heap.size, 0, none⟩) n n) (w.alloc (.cells cells' e)) ∧ cells'.size = n * sz ∧ (∀ ds ∈ es, ds.length = sz) ∧
      ∀ (j : Nat) d, es.flatten[j]? = some d → ∃ u, cells'[j]? = some u ∧ Rep c.F u d := by
  have hpl := bsl_len _ _ _ hb
  rw [hlen, List.length_map] at hpl
  obtain ⟨cells', h1, h2, _, h4, h5, h6⟩ := bsl_fill hS (ps.map fun p => (p.1, f p.2)) 0 es (ps.map fun p => (p.1, a.eval p.2)) ((Array.range (n * sz)).map (z.cells[· % z.cells.size]!)) hb (by simp) (fun i p v h1 h2 => by
    simp only [List.getElem?_map, Option.map_eq_some_iff] at h1 h2
    obtain ⟨q, hq, rfl⟩ := h1
    obtain ⟨q', hq', rfl⟩ := h2
    rw [hq] at hq'; cases hq'
    exact ⟨rfl, hf _⟩) (by simp [← hpl])
  simp only [Array.size_map, Array.size_range] at h2
  refine ⟨cells', ?_, h2, h5, fun j d hj => ?_⟩
  · simp only [Instr.buildSlice, Sem.run_bind, run_underlying ht, Result.andThen_ok, run_sizeOf hs]
    rw [if_neg (by simpa using hle)]
    by_cases hn : n * sz = 0
    · have e0 : ((Array.range (n * sz)).map fun x => z.cells[x % z.cells.size]!) = (Array.range (n * sz)).map fun x => (#[] : Array Value)[x % (#[] : Array Value).size]! := by rw [hn]; simp
      rw [e0] at h1
      rw [if_pos hn]
      simp only [Sem.run_bind, Result.andThen_ok, Sem.run_pure, h1, newRow, run_newObj, World.alloc_eq]
    · rw [if_neg hn]
      simp only [Sem.run_bind, run_zeroB hz, Result.andThen_ok, Sem.run_pure, h1, newRow, run_newObj, World.alloc_eq]
  · obtain ⟨u, hu, hr⟩ := h6 j d hj
    rw [Nat.zero_mul, Nat.zero_add] at hu
    exact ⟨u, hu, hr⟩

theorem bsliceN_sound (hS : Sat c own w) {t e sz n : Nat} {ps : List (Nat × Operand)} {f : Operand → SV} (ht : P.underlying t = some (.slice e)) (hs : sizeB P e = some sz) {z : Value} (hz : zeroB P e = some z) (h0 : sz ≠ 0)
    (hf : ∀ x, Rel c (f x) (a.eval x)) (h : BsliceN own e sz n (bsl own sz 0 (ps.map fun p => (p.1, f p.2))) K) :
    ∃ u w', (Instr.buildSlice t n (ps.map fun p => (p.1, a.eval p.2)).toArray).run P w = .ok u w' ∧ Fin c own w a o.dst K (a.put o.dst u) w' := by
  unfold BsliceN at h
  split at h
  · rename_i es hb
    obtain ⟨hlen, hle, hK⟩ := h
    obtain ⟨cells', hrun, h2, h5, h6⟩ := bslice_run hS ht hs hz h0 hf hb hlen hle
    obtain ⟨k1, k2, k3⟩ := hS.alloc (.cells cells' e) (.slice (some ⟨w.heap.size, 0, none⟩) n n) (.row e sz es) rfl rfl
      ⟨h5, cells'.toList, ⟨by simp [h2, hlen], .inr ⟨w.heap.size, n, cells', by rw [hlen], Nat.zero_le _, heap_alloc_new w _, by omega, by
        simp only [maxLen]; have : n ≤ n * sz := Nat.le_mul_of_pos_right n (Nat.pos_of_ne_zero h0); omega, h2, by rw [hlen, ← h2, ← Array.length_toList, List.take_length]⟩⟩, fun j d hj => by
          obtain ⟨u, hu, hr⟩ := h6 j d hj
          exact ⟨u, by simpa using hu, hr.mono (c.push_le _).f⟩⟩
    exact ⟨_, _, hrun, _, _, _, _, rfl, .hd (by simp [Cx.push, hS.n]) (by simp [Cx.push, hS.n]), k1, k2, k3, hK⟩
  · exact h.elim

/-- A source of elements, where its cells lie. -/
theorem src_rel (hS : Sat c own w) {s : SV} {u : Value} {ys : List (List D)} {sz : Nat} (hr : Rel c s u) (hs : src own s = some ys) (hd : ∀ ds ∈ ys, ds.length = sz) :
    (ys = [] ∧ u = .slice none 0 0) ∨ ∃ (ad : Addr) (cap : Nat) (news : List Value), u = .slice (some ad) ys.length cap ∧ news.length = ys.length * sz ∧ (∀ (j : Nat) v, news[j]? = some v → w.cell? (ad.add j) = some v) ∧
      (∀ v ∈ news, v.oneCell' = true) ∧ ∀ (j : Nat) d, ys.flatten[j]? = some d → ∃ v, news[j]? = some v ∧ Rep c.F v d := by
  unfold src at hs
  split at hs
  · rename_i es
    cases hs
    cases hr with | d hr =>
    cases hr with
    | nil ad cap h0 =>
      cases ad with
      | none => rw [h0 rfl]; exact .inl ⟨rfl, rfl⟩
      | some ad => exact .inr ⟨ad, cap, [], rfl, by simp, by simp, by simp, by simp⟩
    | sl b off cap cs e fr _ sz' g hF hcap hsz hc hrep =>
      refine .inr ⟨⟨b, off, none⟩, cap, (List.range (ys.length * sz)).map fun q => g (q / sz) (q % sz), rfl, by simp, ?_, ?_, ?_⟩
      · intro j v hj
        simp only [List.getElem?_map, Option.map_eq_some_iff] at hj
        obtain ⟨q, hq, rfl⟩ := hj
        have hlt : j < ys.length * sz := by have := (List.getElem?_eq_some_iff.1 hq).1; simpa using this
        rw [List.getElem?_range hlt] at hq; cases hq
        have hspos : 0 < sz := by rcases Nat.eq_zero_or_pos sz with h | h; (subst h; simp at hlt); exact h
        have hqd : j / sz < ys.length := (Nat.div_lt_iff_lt_mul hspos).2 hlt
        have hqm : j % sz < sz := Nat.mod_lt _ hspos
        have hl := hd ys[j / sz] (by simp)
        have hget : ys[j / sz]? = some ys[j / sz] := by simp [hqd]
        have hsz' := hsz _ _ hget
        rw [add_none, cell_of_row w b _ _ _ _ (hS.le b _ hF)]
        have := hc (j / sz) _ (j % sz) (ys[j / sz][j % sz]'(by omega)) hget (by simp [hl, hqm])
        rw [← hsz', hl] at this
        have e1 : off + j / sz * sz + j % sz = off + j := by rw [Nat.add_assoc, Nat.mul_comm (j / sz) sz, Nat.div_add_mod]
        rwa [e1] at this
      · intro v hv
        simp only [List.mem_map, List.mem_range] at hv
        obtain ⟨q, hq, rfl⟩ := hv
        have hspos : 0 < sz := by rcases Nat.eq_zero_or_pos sz with h | h; (subst h; simp at hq); exact h
        have hqd : q / sz < ys.length := (Nat.div_lt_iff_lt_mul hspos).2 hq
        have hqm : q % sz < sz := Nat.mod_lt _ hspos
        have hl := hd ys[q / sz] (by simp)
        exact (hrep (q / sz) ys[q / sz] (q % sz) (ys[q / sz][q % sz]'(by omega)) (by simp [hqd]) (by simp [hl, hqm])).one
      · intro j d hj
        have hlt : j < ys.length * sz := by have := (List.getElem?_eq_some_iff.1 hj).1; rwa [flatten_len hd] at this
        have hspos : 0 < sz := by rcases Nat.eq_zero_or_pos sz with h | h; (subst h; simp at hlt); exact h
        have hqd : j / sz < ys.length := (Nat.div_lt_iff_lt_mul hspos).2 hlt
        have hqm : j % sz < sz := Nat.mod_lt _ hspos
        have hfl := flatten_get hd (j / sz) (j % sz) ys[j / sz] (by simp [hqd]) hqm
        have e1 : j / sz * sz + j % sz = j := by rw [Nat.mul_comm]; exact Nat.div_add_mod j sz
        rw [e1, hj] at hfl
        exact ⟨g (j / sz) (j % sz), by simp [List.getElem?_range hlt], hrep _ _ _ d (by simp [hqd]) hfl.symm⟩
  · cases hs
    exact .inl ⟨rfl, hr.of_val⟩
  · rename_i r
    split at hs
    · rename_i ty sz' es hg
      cases hs
      have hx := getr_some hg (by simp)
      obtain ⟨hd', us, ⟨hn, hv⟩, hc⟩ := hS.res r _ hx
      cases hr with | hd hr hv' =>
      rcases hv with ⟨hv, h0⟩ | ⟨b, cap, cur, hv, _, hb, hle, hm, hcs, htake⟩
      · exact .inl ⟨List.eq_nil_of_length_eq_zero h0, by rw [← hv', hv]⟩
      · have hsz' : ys.length * sz' = ys.length * sz := by
          rcases Nat.eq_zero_or_pos ys.length with h | h
          · rw [h]; simp
          · have : ys[0] ∈ ys := by simp
            rw [← hd' _ this, ← hd _ this]
        refine .inr ⟨⟨b, 0, none⟩, cap, us, by rw [← hv', hv], by rw [hn, hsz'], ?_, ?_, hc⟩
        · intro j v hj
          rw [add_none, cell_of_row w b _ _ _ _ hb]
          rw [← htake, List.getElem?_take] at hj
          split at hj
          · rw [Nat.zero_add]; simpa using hj
          · cases hj
        · intro v hv
          obtain ⟨i, hi⟩ := List.getElem?_of_mem hv
          have hlt : i < ys.flatten.length := by rw [flatten_len hd', ← hn]; exact (List.getElem?_eq_some_iff.1 hi).1
          obtain ⟨u, hu, hr⟩ := hc i ys.flatten[i] (by simp [])
          rw [hu] at hi; cases hi; exact hr.one
    · cases hs
  · cases hs

theorem flatten_append_get {xs ys : List (List D)} {us vs : List Value} {F : Fz} {sz : Nat} (hl : us.length = xs.length * sz) (hd : ∀ ds ∈ xs, ds.length = sz) (h1 : ∀ (j : Nat) d, xs.flatten[j]? = some d → ∃ u, us[j]? = some u ∧ Rep F u d)
    (h2 : ∀ (j : Nat) d, ys.flatten[j]? = some d → ∃ u, vs[j]? = some u ∧ Rep F u d) : ∀ (j : Nat) d, (xs ++ ys).flatten[j]? = some d → ∃ u, (us ++ vs)[j]? = some u ∧ Rep F u d := by
  intro j d hj
  have hx : xs.flatten.length = us.length := by rw [flatten_len hd, hl]
  rw [List.flatten_append] at hj
  by_cases h : j < us.length
  · rw [List.getElem?_append_left (by omega)] at hj
    rw [List.getElem?_append_left h]; exact h1 j d hj
  · rw [List.getElem?_append_right (by omega), hx] at hj
    rw [List.getElem?_append_right (by omega)]; exact h2 _ d hj

theorem appN_sound (hS : Sat c own w) {t ty e : TypeId} {i : TypeInfo} {z : Value} (ht : P.underlying t = some (.slice e)) (hi : P.info? e = some i) (hz : i.zero = some z) (hzs : z.cells.size = i.size) (hpos : 0 < i.size)
    {x y : SV} {u v : Value} (hx : Rel c x u) (hy : Rel c y v) (h : AppN own e i.size i.bytes x (src own y) K) :
    ∃ r w', (Builtin.append_ #[t, t] ty #[u, v]).run P w = .ok r w' ∧ Fin c own w a o.dst K (a.put o.dst r) w' := by
  unfold AppN at h
  split at h
  · exact h.elim
  rename_i ys hys
  -- the step, whatever the row
  have step : ∀ (xs : List (List D)) (us : List Value) (own0 : List Res), (∀ ds ∈ ys, ds.length = i.size) → (xs.length + ys.length) * i.bytes ≤ 140737488355328 → xs.length + ys.length ≤ maxLen → (∀ ds ∈ xs, ds.length = i.size) →
      w.ownsRow 0 e i.size u xs.length us → (∀ (j : Nat) d, xs.flatten[j]? = some d → ∃ u, us[j]? = some u ∧ Rep c.F u d) → own0.length = own.length →
      (∀ (s : Nat) y, own0[s]? = some y → y = .gone ∨ (own[s]? = some y ∧ (y.live = true → ∀ b, blkOf u = some b → blkOf (c.θ s) ≠ some b))) → (∀ b, blkOf u = some b → Own c own b) →
      K (.hd own.length) (own0 ++ [.row e i.size (xs ++ ys)]) → ∃ r w', (Builtin.append_ #[t, t] ty #[u, v]).run P w = .ok r w' ∧ Fin c own w a o.dst K (a.put o.dst r) w' := by
    intro xs us own0 hd hby h63 hdx hown hus hl0 h0 hrow hK
    have hdxy : ∀ ds ∈ xs ++ ys, ds.length = i.size := fun ds hm => by
      rcases List.mem_append.1 hm with h | h
      · exact hdx ds h
      · exact hd ds h
    have hob : u.ownBlock = blkOf u := by
      rcases hown.2 with ⟨rfl, _⟩ | ⟨g, cap, cur, rfl, _⟩ <;> rfl
    have h48 : (xs.length + ys.length) * i.bytes ≤ 281474976710656 := by omega
    rcases src_rel hS hy hys hd with ⟨rfl, rfl⟩ | ⟨ad, cap, news, rfl, hnl, hnews, hone, hnr⟩
    · -- nothing is appended
      have hrun := run_append_owned_none (P := P) w 0 t ty e i i.size ht hi u xs.length us hown
      have hvone : u.oneCell' = true := by rcases hown.2 with ⟨rfl, _⟩ | ⟨g, cap, cur, rfl, _⟩ <;> rfl
      obtain ⟨k1, k2, k3⟩ := hS.push (w' := w) (blkOf u) own0 hl0 h0 hrow rfl rfl rfl (Nat.le_refl _) (fun _ _ _ => rfl) u (.row e i.size (xs ++ [])) hvone (fun b hb => .inr hb)
        ⟨hdxy, us, by simpa using hown, fun j d hj => by
          obtain ⟨u, h1, h2⟩ := hus j d (by simpa using hj)
          exact ⟨u, h1, h2.mono (c.push_le _).f⟩⟩
      exact ⟨_, _, hrun, _, _, _, _, rfl, .hd (by simp [Cx.push, hS.n]) (by simp [Cx.push, hS.n]), k1, k2, k3, hK⟩
    · obtain ⟨v', w', hrun, hown', hg, hnil⟩ := run_append_own (P := P) w 0 t ty e i z i.size i.bytes ht hi hz rfl rfl hzs hpos u xs.length us hown ad ys.length cap news hnl hnews hone h63 hby (Nat.zero_le _)
      have hvone : v'.oneCell' = true := by rcases hown'.2 with ⟨rfl, _⟩ | ⟨g, cap, cur, rfl, _⟩ <;> rfl
      -- where the result lies
      have hfresh : ∀ b, blkOf v' = some b → w.heap.size ≤ b ∨ blkOf u = some b := by
        intro b hb
        rcases hown.2 with ⟨rfl, hx0⟩ | ⟨g, cp, cur, rfl, _, hgb, hle, _, hcs, _⟩
        · by_cases hm : ys.length = 0
          · rw [hnil.2 ⟨rfl, hm⟩] at hb; cases hb
          · have := run_append_nil (P := P) w t ty e i z ht hi hz ad ys.length cap news hnl hnews (by omega) (by simp only [maxLen] at h63; omega) (by rw [hx0, Nat.zero_add] at h48; exact h48)
            rw [this] at hrun; cases hrun
            simp [blkOf] at hb; exact .inl (by omega)
        · by_cases hroom : xs.length + ys.length ≤ cp
          · have := run_append_room (P := P) w t ty e i ht hi g xs.length cp cur hgb ad ys.length cap news hnl hnews hone hroom (by rw [hnl, hcs, ← Nat.add_mul]; exact Nat.mul_le_mul_right _ hroom)
            rw [this] at hrun; cases hrun
            exact .inr (by simpa [blkOf] using hb)
          · have := run_append_grow (P := P) w t ty e i z ht hi hz ⟨g, 0, none⟩ xs.length cp us hown.1 (hown.cells (g := g) rfl) ad ys.length cap news hnl hnews (by omega) (by simp only [maxLen] at h63; omega) (growslice_fits (by omega) hby)
            rw [this] at hrun; cases hrun
            simp [blkOf] at hb; exact .inl (by omega)
      obtain ⟨k1, k2, k3⟩ := hS.push (w' := w') (blkOf u) own0 hl0 h0 hrow hg.os hg.tape hg.output hg.size (fun b hb hne => hg.block b hb (by rw [hob]; exact hne)) v' (.row e i.size (xs ++ ys)) hvone hfresh
        ⟨hdxy, us ++ news, by rw [List.length_append]; exact hown', fun j d hj => by
          obtain ⟨u, h1, h2⟩ := flatten_append_get hown.1 hdx hus hnr j d hj
          exact ⟨u, h1, h2.mono (c.push_le _).f⟩⟩
      exact ⟨_, _, hrun, _, _, _, _, rfl, .hd (by simp [Cx.push, hS.n]) (by simp [Cx.push, hS.n]), k1, k2, k3, hK⟩
  split at h
  · obtain rfl := hx.of_val
    obtain ⟨h1, h2, h3, hK⟩ := h
    exact step [] [] own h1 (by simpa using h2) (by simpa using h3) (by simp) (World.ownsRow_nil w 0 e i.size) (by simp) rfl (fun s y hy => .inr ⟨hy, fun _ b hb => by cases hb⟩) (fun b hb => by cases hb) (by simpa using hK)
  · rename_i r
    split at h
    · rename_i ty' sz' xs hg
      obtain ⟨rfl, rfl, h1, h2, h3, hK⟩ := h
      have hx' := getr_some hg (by simp)
      obtain ⟨hdx, us, hown, hus⟩ := hS.res r _ hx'
      cases hx with | hd hr hv =>
      rw [hv] at hown
      have hrlt : r < own.length := (List.getElem?_eq_some_iff.1 hx').1
      rw [setr_eq] at hK
      refine step xs us (own.set r .gone) h1 h2 h3 hdx hown hus (by simp) (fun s y hy => ?_) (fun b hb => ⟨r, _, hx', rfl, by rw [hv]; exact hb⟩) hK
      rw [List.getElem?_set] at hy
      split at hy
      · rename_i e'; subst e'; simp [] at hy; exact .inl hy.symm
      · rename_i e'
        exact .inr ⟨hy, fun hl b hb hb' => e' (hS.apart r s _ y b hx' hy rfl hl (by rw [hv]; exact hb) hb')⟩
    · exact h.elim
  · exact h.elim

end
end Go.SX
