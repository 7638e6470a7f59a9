/-
  What is owed at an operation is enough: subslices, make, division, calls; every operation; a region in the order of its text.
-/
import Derived.Test.YtlahdopmiplnoaaXSxI
namespace Go.SX
open Go

section
variable {P : Program} {c : Cx} {own : List Res} {env : List SV} {a : Act} {w w' : World} {o : Oper} {K : SV → List Res → Prop} {Q : Exit → Act → World → Prop}

/-- Options side by side. -/
def RelO (c : Cx) : Option SV → Option Value → Prop
  | none, none => True
  | some s, some u => Rel c s u
  | _, _ => False

theorem relO_map {f : Operand → SV} (hf : ∀ x, Rel c (f x) (a.eval x)) (x : Option Operand) : RelO c (x.map f) (x.map a.eval) := by
  cases x with
  | none => trivial
  | some x => exact hf x

theorem bnd_inv {dflt : Int} {x : Option SV} {u : Option Value} {n : Int} (hr : RelO c x u) (h : bnd dflt x = some n) : (u = none ∧ n = dflt) ∨ ∃ k, u = some (.int k n) := by
  cases x with
  | none =>
    cases u with
    | none => simp [bnd] at h; exact .inl ⟨rfl, h.symm⟩
    | some v => exact hr.elim
  | some s =>
    cases u with
    | none => exact hr.elim
    | some v =>
      unfold bnd at h
      split at h
      · rename_i e; cases e
      · rename_i e; cases e; cases h
        obtain rfl := Rel.of_val hr
        exact .inr ⟨_, rfl⟩
      · cases h

theorem bnds {isS : Bool} {lo hi : Option SV} {u v : Option Value} {len cap : Nat} {l h : Int} (hl : RelO c lo u) (hh : RelO c hi v) (h1 : bnd 0 lo = some l) (h2 : bnd len hi = some h) (h0 : 0 ≤ l) (hlh : l ≤ h) (hhc : h ≤ cap) :
    (Instr.sliceBounds isS len cap u v none).run P w = .ok (l.toNat, h.toNat, cap) w := by
  have e1 : ∀ k code, (Instr.sliceBound (.int k h) cap code).run P w = .ok h.toNat w := fun k code => run_sliceBound w k h cap code (by omega) hhc
  have e2 : ∀ k code, (Instr.sliceBound (.int k l) h.toNat code).run P w = .ok l.toNat w := fun k code => run_sliceBound w k l h.toNat code h0 (by omega)
  rcases bnd_inv hl h1 with ⟨rfl, rfl⟩ | ⟨k, rfl⟩ <;> rcases bnd_inv hh h2 with ⟨rfl, rfl⟩ | ⟨k', rfl⟩
  · simp [Instr.sliceBounds]
  · simp [Instr.sliceBounds, e1]
  · have e3 : (Instr.sliceBound (.int k l) len .sliceB).run P w = .ok l.toNat w := by have := e2 k .sliceB; simpa using this
    simp [Instr.sliceBounds, e3]
  · simp [Instr.sliceBounds, e1, e2]

theorem slcN_sound (hS : Sat c own w) {t e : TypeId} {sz : Nat} {x : SV} {lo hi : Option SV} {u : Value} {lv hv : Option Value} {K : SV → Prop} (ht : P.underlying t = some (.slice e)) (hs : sizeB P e = some sz)
    (hx : Rel c x u) (hl : RelO c lo lv) (hh : RelO c hi hv) (h : SlcN sz x lo hi K) : ∃ v sv, (Instr.sliceAt t u lv hv none).run P w = .ok v w ∧ Rel c sv v ∧ K sv := by
  unfold SlcN at h
  split at h
  · rename_i es
    split at h
    · rename_i l h' h1 h2
      obtain ⟨h0, hlh, hhe, hd, hK⟩ := h
      cases hx with | d hx =>
      have run : ∀ (ad : Option Addr) (cap : Nat), es.length ≤ cap → (Instr.sliceAt t (.slice ad es.length cap) lv hv none).run P w =
          .ok (.slice (if cap = l.toNat then ad else ad.map (·.add (l.toNat * sz))) (h'.toNat - l.toNat) (cap - l.toNat)) w := fun ad cap hc => by
        have hb := bnds (P := P) (w := w) (isS := true) (cap := cap) hl hh h1 h2 h0 hlh (by omega)
        simp only [Instr.sliceAt, Sem.run_bind, run_underlying ht, Result.andThen_ok, Instr.slice, hb, run_sizeOf hs, Sem.run_pure]
      suffices hgoal : ∃ v, (Instr.sliceAt t u lv hv none).run P w = .ok v w ∧ Rep c.F v (.sl ((es.take h'.toNat).drop l.toNat)) from let ⟨v, g1, g2⟩ := hgoal; ⟨v, _, g1, .d g2, hK⟩
      cases hx with
      | nil ad cap hn =>
        refine ⟨_, run ad cap (by simp), ?_⟩
        simp only [List.take_nil, List.drop_nil]
        have e1 : h'.toNat - l.toNat = 0 := by simp at hhe; omega
        have e2 : l.toNat = 0 := by simp at hhe; omega
        rw [e1, e2]
        refine .nil _ _ fun hnone => ?_
        split at hnone
        · rw [hn hnone]
        · simp at hnone; rw [hn hnone]
      | sl b off cap cs e' fr es sz' g hF hcap hsz hc hr =>
        refine ⟨_, run _ cap hcap, ?_⟩
        by_cases heq : h' = l
        · subst heq
          have : (es.take h'.toNat).drop h'.toNat = [] := by rw [List.drop_eq_nil_iff, List.length_take]; omega
          rw [this, Nat.sub_self]
          refine .nil _ _ fun hnone => ?_
          split at hnone <;> simp at hnone
        · have hne : ¬ cap = l.toNat := by omega
          have hlt : l.toNat < es.length := by omega
          have hl0 := hd es[l.toNat] (by simp)
          have hl1 := hsz l.toNat es[l.toNat] (by simp [hlt])
          have hss : sz' = sz := by rw [← hl1, hl0]
          subst hss
          rw [if_neg hne]
          simp only [Option.map_some, add_none]
          have hlen : ((es.take h'.toNat).drop l.toNat).length = h'.toNat - l.toNat := by simp; omega
          have hget : ∀ (i : Nat) ds, ((es.take h'.toNat).drop l.toNat)[i]? = some ds → es[l.toNat + i]? = some ds := fun i ds hi => by
            rw [List.getElem?_drop, List.getElem?_take] at hi
            split at hi
            · exact hi
            · cases hi
          rw [← hlen]
          refine .sl b (off + l.toNat * sz') _ cs e' fr _ sz' (fun i j => g (l.toNat + i) j) hF (by rw [hlen]; omega) (fun i ds hi => hsz _ ds (hget i ds hi)) (fun i ds j d hi hj => ?_) (fun i ds j d hi hj => hr _ ds j d (hget i ds hi) hj)
          have := hc _ ds j d (hget i ds hi) hj
          rw [Nat.add_mul] at this
          have e : off + l.toNat * sz' + i * sz' + j = off + (l.toNat * sz' + i * sz') + j := by omega
          rw [e]; exact this
    · exact h.elim
  · exact h.elim

theorem slcRN_sound (hS : Sat c own w) {t e : TypeId} {sz : Nat} {x : SV} {lo hi : Option SV} {u : Value} {lv hv : Option Value} (ht : P.underlying t = some (.slice e)) (hs : sizeB P e = some sz)
    (hx : Rel c x u) (hl : RelO c lo lv) (hh : RelO c hi hv) (h : SlcRN own sz x lo hi K) : ∃ v, (Instr.sliceAt t u lv hv none).run P w = .ok v w ∧ Fin c own w a o.dst K (a.put o.dst v) w := by
  unfold SlcRN at h
  split at h
  · rename_i r
    split at h
    · rename_i ty s es hg
      have hx' := getr_some hg (by simp)
      obtain ⟨hd, us, ⟨hn, hv'⟩, hc⟩ := hS.res r _ hx'
      have hrlt : r < own.length := (List.getElem?_eq_some_iff.1 hx').1
      cases hx with | hd hr hval =>
      -- the row's value, whether nil or not
      obtain ⟨ad, cap, hu, hcap, hmax, had⟩ : ∃ ad cap, c.θ r = .slice ad es.length cap ∧ es.length ≤ cap ∧ cap ≤ maxLen ∧ ((ad = none ∧ cap = 0) ∨ ∃ b cur, ad = some ⟨b, 0, none⟩ ∧ w.heap[b]? = some (.cells cur ty (0, 0)) ∧ cur.size = cap * s ∧ cur.toList.take (es.length * s) = us) := by
        rcases hv' with ⟨h1, h2⟩ | ⟨b, cap, cur, h1, _, h2, h3, h4, h5, h6⟩
        · exact ⟨none, 0, by rw [h1, h2], by omega, by simp [maxLen], .inl ⟨rfl, rfl⟩⟩
        · exact ⟨_, cap, h1, h3, h4, .inr ⟨b, cur, rfl, h2, h5, h6⟩⟩
      have run : ∀ (l h' : Int), bnd 0 lo = some l → bnd es.length hi = some h' → 0 ≤ l → l ≤ h' → h' ≤ es.length → (Instr.sliceAt t u lv hv none).run P w =
          .ok (.slice (if cap = l.toNat then ad else ad.map (·.add (l.toNat * sz))) (h'.toNat - l.toNat) (cap - l.toNat)) w := fun l h' h1 h2 h0 hlh hle => by
        have hb := bnds (P := P) (w := w) (isS := true) (cap := cap) hl hh h1 h2 h0 hlh (by omega)
        rw [← hval, hu]
        simp only [Instr.sliceAt, Sem.run_bind, run_underlying ht, Result.andThen_ok, Instr.slice, hb, run_sizeOf hs, Sem.run_pure]
      split at h
      · -- the head
        rename_i kk h'
        obtain ⟨h0, hle, hK⟩ := h
        refine ⟨_, run 0 h' rfl rfl (Int.le_refl _) h0 hle, ?_⟩
        simp only [Int.toNat_zero, Nat.zero_mul, Nat.sub_zero]
        have had0 : (if cap = 0 then ad else ad.map (·.add 0)) = ad := by
          split
          · rfl
          · rcases had with ⟨rfl, _⟩ | ⟨b, cur, rfl, _⟩
            · rfl
            · simp [add_none]
        rw [had0]
        have hlen : (es.take h'.toNat).length = h'.toNat := by rw [List.length_take]; omega
        have hsplit : es.flatten = (es.take h'.toNat).flatten ++ (es.drop h'.toNat).flatten := by rw [← List.flatten_append, List.take_append_drop]
        have hd' : ∀ ds ∈ es.take h'.toNat, ds.length = s := fun ds hm => hd ds (List.mem_of_mem_take hm)
        have hle' : h'.toNat * s ≤ es.length * s := Nat.mul_le_mul_right _ (by omega)
        have hres : ResOk (c.push (.slice ad h'.toNat cap)) w (.slice ad h'.toNat cap) (.row ty s (es.take h'.toNat)) := by
          refine ⟨hd', us.take (h'.toNat * s), ⟨by rw [List.length_take, hlen, hn]; omega, ?_⟩, fun j d hj => ?_⟩
          · rcases had with ⟨rfl, rfl⟩ | ⟨b, cur, rfl, h2, h5, h6⟩
            · left
              have : h'.toNat = 0 := by omega
              rw [hlen, this]; exact ⟨rfl, rfl⟩
            · right
              refine ⟨b, cap, cur, by rw [hlen], Nat.zero_le _, h2, by omega, hmax, h5, ?_⟩
              rw [hlen, ← h6, List.take_take, Nat.min_eq_left hle']
          · have hlt := (List.getElem?_eq_some_iff.1 hj).1
            rw [flatten_len hd', hlen] at hlt
            obtain ⟨u', k1, k2⟩ := hc j d (by rw [hsplit, List.getElem?_append_left (List.getElem?_eq_some_iff.1 hj).1]; exact hj)
            exact ⟨u', by rw [List.getElem?_take, if_pos hlt]; exact k1, k2.mono (c.push_le _).f⟩
        obtain ⟨k1, k2, k3⟩ := hS.push (w' := w) (blkOf (c.θ r)) (own.set r .gone) (by simp) (fun q y hy => by
            rw [List.getElem?_set] at hy
            split at hy
            · rename_i e'; subst e'; simp [] at hy; exact .inl hy.symm
            · rename_i e'
              exact .inr ⟨hy, fun hl b hb hb' => e' (hS.apart r q _ y b hx' hy rfl hl hb hb')⟩) (fun b hb => ⟨r, _, hx', rfl, hb⟩) rfl rfl rfl (Nat.le_refl _) (fun _ _ _ => rfl) (.slice ad h'.toNat cap) (.row ty s (es.take h'.toNat)) rfl
            (fun b hb => .inr (by rw [hu]; rcases had with ⟨rfl, _⟩ | ⟨b', cur, rfl, _⟩ <;> exact hb)) hres
        rw [setr_eq] at hK
        exact ⟨_, _, _, _, rfl, .hd (by simp [Cx.push, hS.n]) (by simp [Cx.push, hS.n]), k1, k2, k3, hK⟩
      · -- what lies behind
        rename_i kk l
        obtain ⟨rfl, h0, hle, hK⟩ := h
        refine ⟨_, run l es.length rfl rfl h0 hle (Int.le_refl _), fin_same hS (.rs hr ⟨ad, es.length, cap, hu, by omega, by simp⟩) hK⟩
      · exact h.elim
    · exact h.elim
  · exact h.elim

theorem clrN_sound (hS : Sat c own w) {t e ty' : TypeId} {z : Value} {K : List Res → Prop} (ht : P.underlying t = some (.slice e)) (hz : zeroB P e = some z) {x : SV} {u : Value}
    (hx : Rel c x u) (h : ClrN own z.cells.size (toDs own (cval z).cells) x K) : ∃ w' own', (Builtin.clear_ #[t] ty' #[u]).run P w = .ok (.tuple #[]) w' ∧ Sat c own' w' ∧ Goes c own w c own' w' ∧ K own' := by
  generalize hzs : toDs own (cval z).cells = zz at h
  unfold ClrN at h
  split at h
  · rename_i r s i
    split at h
    · rename_i ty s' es zs hg
      obtain ⟨rfl, rfl, hi, hzl, hK⟩ := h
      have hx' := getr_some hg (by simp)
      obtain ⟨hd, us, ⟨hn, hv'⟩, hc⟩ := hS.res r _ hx'
      obtain ⟨hdl, hdr⟩ := toDs_rel hS _ (cval_cells (c := c) (z := z)) hzs
      cases hx with | rs hr hval =>
      obtain ⟨ad, n, cap, hu, hin, rfl⟩ := hval
      generalize hsz : z.cells.size = sz at *
      rw [setr_eq] at hK
      by_cases hie : i = es.length
      · -- nothing to clear
        have hnn : n = es.length := by
          rcases hv' with ⟨h1, h2⟩ | ⟨b, cap', cur, h1, _⟩
          · rw [h1] at hu; cases hu; exact h2.symm
          · rw [h1] at hu; cases hu; rfl
        have e1 : es.take i ++ List.replicate (es.length - i) zs = es := by rw [hie, Nat.sub_self]; simp
        rw [e1] at hK
        have e2 : own.set r (.row ty sz es) = own := by
          apply List.ext_getElem?
          intro j
          rw [List.getElem?_set]
          split
          · rename_i e'; subst e'; rw [hx']; simp [(List.getElem?_eq_some_iff.1 hx').1]
          · rfl
        rw [e2] at hK
        refine ⟨w, own, ?_, hS, .refl c own w, hK⟩
        have e3 : n - i = 0 := by omega
        rw [e3]
        generalize (if cap = i then ad else ad.map (·.add (i * sz))) = ad'
        cases ad' <;> simp [Builtin.clear_, run_underlying ht]
      · rcases hv' with ⟨h1, h2⟩ | ⟨b, cap', cur, h1, h0, hb, hcap, hm, hcs, htake⟩
        · omega
        rw [h1] at hu; cases hu
        have hne : ¬ cap = i := by omega
        rw [if_neg hne]
        simp only [Option.map_some, add_none, Nat.zero_add]
        have hil : i < es.length := by omega
        obtain ⟨m, hm'⟩ : ∃ m, es.length - i = m + 1 := ⟨es.length - i - 1, by omega⟩
        have hzc : (Builtin.zeroCells z.cells (es.length - i)).toList.length = (es.length - i) * sz := by simp [Builtin.zeroCells, hsz]
        have hzone : ∀ v ∈ (Builtin.zeroCells z.cells (es.length - i)).toList, v.oneCell' = true := fun v hv => by
          simp only [Builtin.zeroCells, Array.toList_map, Array.toList_range, List.mem_map, List.mem_range, hsz] at hv
          obtain ⟨j, hj, rfl⟩ := hv
          have hspos : 0 < sz := by rcases Nat.eq_zero_or_pos sz with h | h; (subst h; simp at hj); exact h
          have hjm : j % sz < zs.length := by rw [hzl]; exact Nat.mod_lt _ hspos
          obtain ⟨u, hu, hr⟩ := hdr (j % sz) zs[j % sz] (by simp [hjm])
          rw [Array.getElem?_toList] at hu
          rw [getElem!_def, hu]; exact hr.one
        have hfit : i * sz + (es.length - i) * sz = es.length * sz := by rw [← Nat.add_mul]; congr 1; omega
        have hlec : es.length * sz ≤ cur.size := by rw [hcs]; exact Nat.mul_le_mul_right _ hcap
        have hst := run_storeCells_at P b (i * sz) ty (Builtin.zeroCells z.cells (es.length - i)).toList 0 cur w hb (by rw [hzc]; omega) hzone
        simp only [Nat.add_zero] at hst
        have hrun : (Builtin.clear_ #[t] ty' #[.slice (some ⟨b, i * sz, none⟩) (es.length - i) (cap - i)]).run P w = .ok (.tuple #[]) (w.setRow b (Go.SX.splice (i * sz) (Builtin.zeroCells z.cells (es.length - i)).toList cur.toList).toArray) := by
          have hzv := run_zeroB (P := P) (w := w) hz
          rw [hm'] at hst ⊢
          simp only [Builtin.clear_, List.getElem?_toArray, List.getElem?_cons_zero, Sem.run_bind, run_underlying ht, Result.andThen_ok, hzv, hst, Sem.run_pure]
          rfl
        have hd2 : ∀ ds ∈ es.take i ++ List.replicate (es.length - i) zs, ds.length = sz := fun ds hm => by
          rcases List.mem_append.1 hm with h | h
          · exact hd ds (List.mem_of_mem_take h)
          · rw [List.eq_of_mem_replicate h]; exact hzl
        have hl2 : (es.take i ++ List.replicate (es.length - i) zs).length = es.length := by simp; omega
        obtain ⟨k1, k2⟩ := hS.update (w' := w.setRow b (Go.SX.splice (i * sz) (Builtin.zeroCells z.cells (es.length - i)).toList cur.toList).toArray) (x' := .row ty sz (es.take i ++ List.replicate (es.length - i) zs)) hx' rfl rfl (by rw [h1]; rfl) rfl rfl rfl (by simp) (fun j hj => setRow_other w b j _ hj)
          ⟨hd2, (Go.SX.splice (i * sz) (Builtin.zeroCells z.cells (es.length - i)).toList cur.toList).take (es.length * sz), ⟨by
              rw [hl2]
              simp only [Go.SX.splice, List.length_take, List.length_append, List.length_drop, hzc, Array.length_toList]; omega,
            .inr ⟨b, _, _, by rw [h1, hl2], h0, setRow_heap w b cur _ ty _ hb, by rw [hl2]; exact hcap, hm, by
              simp only [List.size_toArray, Go.SX.splice, List.length_append, List.length_take, List.length_drop, hzc, Array.length_toList]; omega, by simp [hl2]⟩⟩, fun q d hq => by
            have hql : q < es.length * sz := by
              have := (List.getElem?_eq_some_iff.1 hq).1
              rwa [flatten_len hd2, hl2] at this
            have hspos : 0 < sz := by rcases Nat.eq_zero_or_pos sz with h | h; (subst h; simp at hql); exact h
            rw [List.getElem?_take, if_pos hql]
            simp only [Go.SX.splice, List.append_assoc]
            rw [List.flatten_append] at hq
            have hft : (es.take i).flatten.length = i * sz := by rw [flatten_len (fun ds hm => hd ds (List.mem_of_mem_take hm)), List.length_take]; congr 1; omega
            by_cases c1 : q < i * sz
            · rw [List.getElem?_append_left (by rw [hft]; exact c1)] at hq
              have hsplit : es.flatten = (es.take i).flatten ++ (es.drop i).flatten := by rw [← List.flatten_append, List.take_append_drop]
              obtain ⟨u, k1, k2⟩ := hc q d (by rw [hsplit, List.getElem?_append_left (by rw [hft]; exact c1)]; exact hq)
              refine ⟨u, ?_, k2⟩
              rw [List.getElem?_append_left (by simp; omega), List.getElem?_take, if_pos c1]
              rw [← htake, List.getElem?_take, if_pos hql] at k1
              exact k1
            · rw [List.getElem?_append_right (by rw [hft]; omega), hft] at hq
              have e1 : (List.take (i * sz) cur.toList).length = i * sz := by simp; omega
              rw [List.getElem?_append_right (by rw [e1]; omega), e1, List.getElem?_append_left (by rw [hzc]; omega)]
              generalize hj : q - i * sz = j at hq
              have hjl : j < (es.length - i) * sz := by omega
              have hqd : j / sz < es.length - i := (Nat.div_lt_iff_lt_mul hspos).2 hjl
              have hqm : j % sz < sz := Nat.mod_lt _ hspos
              have hfl := flatten_get (es := List.replicate (es.length - i) zs) (fun ds hm => by rw [List.eq_of_mem_replicate hm]; exact hzl) (j / sz) (j % sz) zs (by simp [hqd]) hqm
              have e2 : j / sz * sz + j % sz = j := by rw [Nat.mul_comm]; exact Nat.div_add_mod j sz
              rw [e2, hq] at hfl
              obtain ⟨u, hu, hr⟩ := hdr _ d hfl.symm
              refine ⟨u, ?_, hr⟩
              simp only [Builtin.zeroCells, hsz, Array.toList_map, Array.toList_range, List.getElem?_map, List.getElem?_range hjl, Option.map_some]
              rw [Array.getElem?_toList] at hu
              rw [getElem!_def, hu]⟩
        exact ⟨_, _, hrun, k1, k2, hK⟩
    · exact h.elim
  · exact h.elim

theorem slcSN_sound {t : TypeId} {x : SV} {lo hi : Option SV} {u : Value} {lv hv : Option Value} {K : SV → Prop} (ht : P.underlying t = some .string)
    (hx : Rel c x u) (hl : RelO c lo lv) (hh : RelO c hi hv) (h : SlcSN x lo hi K) : ∃ v sv, (Instr.sliceAt t u lv hv none).run P w = .ok v w ∧ Rel c sv v ∧ K sv := by
  unfold SlcSN at h
  split at h
  · rename_i s
    split at h
    · rename_i l h' h1 h2
      obtain ⟨h0, hlh, hhe, hK⟩ := h
      obtain rfl := hx.of_val
      have hb := bnds (P := P) (w := w) (isS := false) (cap := s.size) hl hh h1 h2 h0 hlh (by omega)
      refine ⟨_, _, ?_, .d (.val _ rfl), hK⟩
      simp [Instr.sliceAt, run_underlying ht, Instr.slice, hb]
    · exact h.elim
  · exact h.elim

theorem mksN_sound (hS : Sat c own w) {t e sz : Nat} {i : TypeInfo} {z : Value} (ht : P.underlying t = some (.slice e)) (hi : P.info? e = some i) (hz : i.zero = some z) (hsz : i.size = sz)
    {l k : SV} {u v : Value} (hl : Rel c l u) (hk : Rel c k v) (h : MksN own e sz i.bytes (toDs own (cval z).cells) l k K) :
    ∃ r w', (Instr.makeSlice t u v).run P w = .ok r w' ∧ Fin c own w a o.dst K (a.put o.dst r) w' := by
  generalize hzs : toDs own (cval z).cells = zz at h
  unfold MksN at h
  split at h
  · rename_i zs n m
    obtain ⟨hzl, h0, rfl, hby, h63, hK⟩ := h
    obtain rfl := hl.of_val
    obtain rfl := hk.of_val
    obtain ⟨hdl, hdr⟩ := toDs_rel hS _ (cval_cells (c := c) (z := z)) hzs
    obtain ⟨w1, hrun, hown, hg⟩ := run_make_full (P := P) w 0 t e i z sz ht hi hz hsz .i64 .i64 n.toNat (by rw [Nat.mul_comm]; omega) (by omega) (Nat.zero_le _)
    have en : ((n.toNat : Nat) : Int) = n := by omega
    rw [en] at hrun
    have hd : ∀ ds ∈ List.replicate n.toNat zs, ds.length = sz := fun ds hm => by rw [List.eq_of_mem_replicate hm]; exact hzl
    have hzsz : z.cells.size = zs.length := by rw [hdl, ← (cval_cells (c := c) (z := z)).1]; simp
    obtain ⟨k1, k2, k3⟩ := hS.push (w' := w1) none own rfl (fun s y hy => .inr ⟨hy, fun _ b hb => by cases hb⟩) (fun b hb => by cases hb) hg.os hg.tape hg.output hg.size (fun b hb hne => hg.block b hb hne)
      (.slice (some ⟨w.heap.size, 0, none⟩) n.toNat n.toNat) (.row e sz (List.replicate n.toNat zs)) rfl (fun b hb => .inl (by simp [blkOf] at hb; omega))
      ⟨hd, (madeCells z.cells (n.toNat * sz)).toList, by simpa using hown, fun j d hj => by
        have hlt : j < n.toNat * sz := by have := (List.getElem?_eq_some_iff.1 hj).1; rwa [flatten_len hd, List.length_replicate] at this
        have hspos : 0 < sz := by rcases Nat.eq_zero_or_pos sz with h | h; (subst h; simp at hlt); exact h
        have hqd : j / sz < n.toNat := (Nat.div_lt_iff_lt_mul hspos).2 hlt
        have hqm : j % sz < sz := Nat.mod_lt _ hspos
        have hfl := flatten_get hd (j / sz) (j % sz) zs (by simp [hqd]) hqm
        have e1 : j / sz * sz + j % sz = j := by rw [Nat.mul_comm]; exact Nat.div_add_mod j sz
        rw [e1, hj] at hfl
        obtain ⟨u, hu, hr⟩ := hdr _ d hfl.symm
        refine ⟨u, ?_, hr.mono (c.push_le _).f⟩
        have hzz : z.cells.size = sz := by rw [hzsz, hzl]
        simp only [madeCells, Array.toList_map, Array.toList_range, List.getElem?_map, List.getElem?_range hlt, Option.map_some, hzz]
        rw [Array.getElem?_toList] at hu
        rw [getElem!_def, hu]⟩
    exact ⟨_, _, hrun, _, _, _, _, rfl, .hd (by simp [Cx.push, hS.n]) (by simp [Cx.push, hS.n]), k1, k2, k3, hK⟩
  · exact h.elim

theorem divN_sound {op : BinOp} (hop : op = .quo ∨ op = .rem) {t : TypeId} {x y : SV} {u v : Value} {K : SV → Prop} (hx : Rel c x u) (hy : Rel c y v) (h : DivN op x y K) :
    (∃ k n, u = .int k n) ∧ ∃ r sv, (binOp op t u v).run P w = .ok r w ∧ Rel c sv r ∧ K sv := by
  unfold DivN at h
  split at h
  · rename_i k p k' q
    obtain rfl := hx.of_val
    obtain rfl := hy.of_val
    obtain ⟨rfl, hq, hK⟩ := h
    refine ⟨⟨_, _, rfl⟩, ?_⟩
    rcases hop with rfl | rfl
    · exact ⟨_, _, by simp [binOp, Op.intDiv, hq], .d (.val _ rfl), hK⟩
    · exact ⟨_, _, by simp [binOp, Op.intDiv, hq], .d (.val _ rfl), hK⟩
  · exact h.elim

theorem run_callFunc {f : FuncId} {args : Array Value} (h : okFn P f = true) : (callFunc f args).run P w = .ok (.enter f args) w := by
  unfold okFn at h
  cases hf : P.funcs[f]? with
  | none => simp [hf] at h
  | some fn =>
    simp only [hf, Bool.and_eq_true, bne_iff_ne, ne_eq] at h
    obtain ⟨h1, h2⟩ := h
    cases hb : fn.body with
    | none => simp [hb] at h2
    | some b => simp [callFunc, hf, h1, hb]

theorem callD_wp {f : FuncId} {args : List SV} {us : List Value} {own1 : List Res} {c1 : Cx} (hS : Sat c1 own1 w) (hle : c.le c1) (hg : Goes c own w c1 own1 w) (hr : RelL c1 args us)
    (he : (execOp a.eval o).run P w = (callFunc f us.toArray).run P w) (h : SCall P f own1 args K) : o.wp P a w (Fin c own w a o.dst K) Q := by
  unfold Oper.wp
  rw [he, run_callFunc h.1]
  refine (h.2 c1 w us hS hr).mono ?_
  rintro e w' ⟨c', own', sv, u, rfl, h2, h3, h4, h5, h6⟩
  exact ⟨c', sv, own', u, rfl, h2, h3, hle.trans h4, hg.trans h5, h6⟩

theorem callN_wp {f : FuncId} {args : List SV} {us : List Value} (hS : Sat c own w) (hr : RelL c args us)
    (he : (execOp a.eval o).run P w = (callFunc f us.toArray).run P w) (h : CallN P f own args K) : o.wp P a w (Fin c own w a o.dst K) Q := by
  obtain ⟨own1, args1, h1, h2, h3⟩ := h
  obtain ⟨c1, k1, k2, k3⟩ := h1 c w hS
  exact callD_wp k1 k2 k3 (h2 c1 w us k1 (hr.mono k2)) he h3

end
end Go.SX
