/-
  What is owed at an operation is enough: maps.
-/
import Derived.Test.YtlahdopmiplnoaaXSxJ
import Derived.MapKept
import Derived.ChangeMaps4
namespace Go.SX
open Go

section
variable {P : Program} {c : Cx} {own : List Res} {a : Act} {w : World} {o : Oper} {K : SV → List Res → Prop}

theorem ba_beq (s t : ByteArray) : (s == t) = decide (s.data = t.data) := by
  cases s with | mk a => cases t with | mk b =>
  show (a == b) = _
  by_cases h : a = b
  · subst h; simp
  · simp [h]

theorem mkOf_spec {d : Option TypeDesc} {mk : MK} (h : mkOf d = some mk) : d = some mk.desc := by
  unfold mkOf at h
  split at h <;> cases h <;> rfl

theorem run_chk {mk : MK} {kt : TypeId} {kv : Value} (hd : P.underlying kt = some mk.desc) (hk : mk.ok kv = true) (e : Bool) (n : Nat) : (Instr.checkKey e (n + 1) kt kv).run P w = .ok () w := by
  unfold Instr.checkKey
  rw [Sem.run_bind, run_underlying hd]
  cases mk <;> cases kv <;> first | rfl | (simp [MK.ok] at hk)

theorem sameNow_eq {mk : MK} {x k : Value} (hx : mk.ok x = true) (hk : mk.ok k = true) : Instr.sameNow mk.desc x k = some (keyEq x k) := by
  cases mk <;> cases x <;> simp [MK.ok] at hx <;> cases k <;> simp [MK.ok] at hk
  · subst hx; subst hk
    simp [Instr.sameNow, MK.desc, keyEq, BEq.beq]
  · rename_i s t
    simp only [Instr.sameNow, MK.desc, keyEq, ba_beq]
  · rfl

/-- The first entry that bears a key. -/
def midx : List (Value × List D) → Value → Option Nat
  | [], _ => none
  | (k, _) :: l, x => if keyEq x k then some 0 else (midx l x).map (· + 1)

theorem mget_idx (es : List (Value × List D)) (x : Value) : mget es x = (midx es x).bind fun j => (es[j]?).map (·.2) := by
  induction es with
  | nil => rfl
  | cons p l ih =>
    obtain ⟨k, d⟩ := p
    simp only [mget, midx]
    split
    · rfl
    · rw [ih]; cases midx l x <;> rfl
theorem mput_idx (es : List (Value × List D)) (x : Value) (d : List D) : mput es x d = match midx es x with | none => es ++ [(x, d)] | some j => es.set j (x, d) := by
  induction es with
  | nil => rfl
  | cons p l ih =>
    obtain ⟨k, d'⟩ := p
    simp only [mput, midx]
    split
    · rfl
    · rw [ih]; cases midx l x <;> rfl
theorem midx_lt {es : List (Value × List D)} {x : Value} {j : Nat} (h : midx es x = some j) : ∃ k ds, es[j]? = some (k, ds) ∧ keyEq x k = true := by
  induction es generalizing j with
  | nil => cases h
  | cons p l ih =>
    obtain ⟨k, d⟩ := p
    simp only [midx] at h
    split at h
    · cases h; exact ⟨k, d, rfl, by assumption⟩
    · cases hm : midx l x with
      | none => simp [hm] at h
      | some i => simp [hm] at h; subst h; obtain ⟨k', ds, h1, h2⟩ := ih hm; exact ⟨k', ds, by simpa using h1, h2⟩

theorem findNow_spec {mk : MK} {x : Value} (hx : mk.ok x = true) : ∀ (es : List (Value × List D)) (ms : List MapEntry) (i0 : Nat), ms.length = es.length →
    (∀ (i : Nat) k ds, es[i]? = some (k, ds) → mk.ok k = true ∧ ∃ m, ms[i]? = some m ∧ m.key = k) →
    Instr.findNow mk.desc x ms i0 = some (match midx es x with | none => none | some j => (ms[j]?).map fun m => (i0 + j, m.val))
  | [], [], _, _, _ => rfl
  | [], _ :: _, _, h, _ => by simp at h
  | _ :: _, [], _, h, _ => by simp at h
  | (k, d) :: es, m :: ms, i0, hl, h => by
    obtain ⟨h1, m', h2, h3⟩ := h 0 k d rfl
    simp at h2; subst h2
    simp only [Instr.findNow, h3, sameNow_eq hx h1, midx]
    cases hk : keyEq x k
    · simp only [Bool.false_eq_true, if_false]
      rw [findNow_spec hx es ms (i0 + 1) (by simpa using hl) fun i k ds hi => by
        obtain ⟨h1, m, h2, h3⟩ := h (i + 1) k ds (by simpa using hi)
        exact ⟨h1, m, by simpa using h2, h3⟩]
      cases midx es x with
      | none => rfl
      | some j => simp [Nat.add_assoc, Nat.add_comm 1 j]
    · simp

theorem findKey_run {mk : MK} {kt : TypeId} {x : Value} (hd : P.underlying kt = some mk.desc) (hx : mk.ok x = true) {es : List (Value × List D)} {ms : Array MapEntry} (hl : ms.size = es.length)
    (h : ∀ (i : Nat) k ds, es[i]? = some (k, ds) → mk.ok k = true ∧ ∃ m, ms[i]? = some m ∧ m.key = k) :
    (Instr.findKey kt x ms.toList).run P w = .ok (match midx es x with | none => none | some j => (ms[j]?).map fun m => (j, m.val)) w := by
  have := findNow_spec hx es ms.toList 0 (by simpa using hl) fun i k ds hi => by
    obtain ⟨h1, m, h2, h3⟩ := h i k ds hi
    exact ⟨h1, m, by simpa using h2, h3⟩
  unfold Instr.findKey
  rw [Sem.run_bind, run_underlying hd]
  simp only [Result.andThen_ok, this]
  cases midx es x with
  | none => rfl
  | some j => simp

theorem keyEq_same {mk : MK} {x k : Value} (hx : mk.ok x = true) (hk : mk.ok k = true) (h : keyEq x k = true) : x = k := by
  cases mk <;> cases x <;> simp [MK.ok] at hx <;> cases k <;> simp [MK.ok] at hk
  · simp [keyEq] at h; obtain ⟨rfl, rfl⟩ := h; rfl
  · rename_i s t
    simp only [keyEq, decide_eq_true_eq] at h
    obtain ⟨a⟩ := s
    obtain ⟨b⟩ := t
    rw [show a = b from h]
  · simp [keyEq] at h; rw [h]

theorem stays_run {mk : MK} {x : Value} (hx : mk.ok x = true) : (Instr.keyThatStays x x).run P w = .ok x w := by
  have : Instr.sameBits 10000 x x = true := by
    cases mk <;> cases x <;> simp [MK.ok] at hx <;> simp [Instr.sameBits, ba_beq]
  simp [Instr.keyThatStays, this]

theorem mkmN_sound {t : TypeId} {mk : MK} {agg : Bool} (hS : Sat c own w) (h : MkmN own mk agg K) :
    ∃ u w', (Instr.makeMap t none).run P w = .ok u w' ∧ Fin c own w a o.dst K (a.put o.dst u) w' := by
  obtain ⟨k1, k2, k3⟩ := hS.alloc (.map #[] 0) (.map (some w.heap.size)) (.mp mk agg []) rfl rfl ⟨w.heap.size, #[], 0, rfl, heap_alloc_new w _, rfl, fun i k ds hi => by simp at hi⟩
  refine ⟨.map (some w.heap.size), w.alloc (.map #[] 0), ?_, c.push (.map (some w.heap.size)), _, _, _, rfl, .hd (by simp [Cx.push, hS.n]) (by simp [Cx.push, hS.n]), k1, k2, k3, h⟩
  simp only [Instr.makeMap, Sem.run_bind, Sem.run_pure, run_newObj, Result.andThen_ok, World.alloc_eq]

theorem setBlock_heap {b : Nat} {o o' : Obj} (hb : w.heap[b]? = some o) : (ChangeMaps.setBlock w b o').heap[b]? = some o' := by
  have hlt := (Array.getElem?_eq_some_iff.1 hb).1
  simp [ChangeMaps.setBlock, hlt]
theorem setBlock_other {b j : Nat} {o' : Obj} (hj : j ≠ b) : (ChangeMaps.setBlock w b o').heap[j]? = w.heap[j]? := by
  simp only [ChangeMaps.setBlock, Array.getElem?_setIfInBounds]
  rw [if_neg (fun e => hj e.symm)]

theorem mval_of (hS : Sat c own w) {agg : Bool} {v : SV} {y : Value} {ds : List D} (hv : Rel c v y) (hf : v.flat = true) (hag : v.isAgg = agg) (hds : toDs own v.cells = some ds) : MVal c.F agg ds y := by
  obtain ⟨h1, h2⟩ := toDs_rel hS _ (cells_rel hS.one hv hf) hds
  unfold MVal
  subst hag
  cases v with
  | agg cs =>
    obtain ⟨us, rfl, hr⟩ := Rel.agg_iff.1 hv
    simp only [SV.isAgg, if_true]
    refine ⟨us.toArray, rfl, ?_, fun j d hj => ?_⟩
    · simp [SV.cells] at h1; simp [h1, hr.1]
    · obtain ⟨u, k1, k2⟩ := h2 j d hj
      exact ⟨u, by simpa [Value.cells] using k1, k2⟩
  | tup => simp [SV.flat] at hf
  | top => simp [SV.flat] at hf
  | _ =>
    simp only [SV.isAgg, Bool.false_eq_true, if_false]
    simp only [SV.cells, List.length_singleton] at h1
    obtain ⟨d, rfl⟩ : ∃ d, ds = [d] := by
      match ds, h1 with
      | [d], _ => exact ⟨d, rfl⟩
    obtain ⟨u, k1, k2⟩ := h2 0 d rfl
    have hone : y.oneCell' = true := hv.one hS.one rfl
    rw [one_cells hone] at k1
    simp at k1
    exact ⟨d, rfl, k1 ▸ k2⟩

theorem msetN_sound (hS : Sat c own w) {t kt e : TypeId} {mk : MK} {agg : Bool} {x k v : SV} {ux uk uv : Value} {K : List Res → Prop} (ht : P.underlying t = some (.map kt e)) (hd : P.underlying kt = some mk.desc)
    (hx : Rel c x ux) (hk : Rel c k uk) (hv : Rel c v uv) (h : MsetN own mk agg x k v K) :
    ∃ w' own', (Instr.mapUpdate t ux uk uv).run P w = .ok () w' ∧ Sat c own' w' ∧ Goes c own w c own' w' ∧ K own' := by
  unfold MsetN at h
  split at h
  · rename_i r kv
    split at h
    · rename_i mk' agg' es hg
      obtain ⟨rfl, rfl, hok, hf, hag, ds, hds, hK⟩ := h
      have hx' := getr_some hg (by simp)
      obtain ⟨b, ms, clock, hθ, hb, hsz, hc⟩ := hS.res r _ hx'
      cases hx with | hd hr ht' =>
      rw [hθ] at ht'; subst ht'
      obtain rfl : kv = uk := hk.of_val.symm
      have hmv := mval_of hS hv hf hag hds
      have hc' : ∀ (i : Nat) k ds, es[i]? = some (k, ds) → mk'.ok k = true ∧ ∃ m, ms[i]? = some m ∧ m.key = k := fun i k ds hi => let ⟨h1, m, h2, h3, _⟩ := hc i k ds hi; ⟨h1, m, h2, h3⟩
      have hfk := findKey_run (w := w) hd hok hsz hc'
      have hput := mput_idx es kv ds
      rw [setr_eq] at hK
      have fin : ∀ (ms' : Array MapEntry) (clock' : Nat), (Instr.mapUpdate t (.map (some b)) kv uv).run P w = .ok () (ChangeMaps.setBlock w b (.map ms' clock')) → ms'.size = (mput es kv ds).length →
          (∀ (i : Nat) k ds', (mput es kv ds)[i]? = some (k, ds') → mk'.ok k = true ∧ ∃ m, ms'[i]? = some m ∧ m.key = k ∧ MVal c.F agg' ds' m.val) →
          ∃ w' own', (Instr.mapUpdate t (.map (some b)) kv uv).run P w = .ok () w' ∧ Sat c own' w' ∧ Goes c own w c own' w' ∧ K own' := fun ms' clock' hrun hs hm => by
        obtain ⟨k1, k2⟩ := hS.update (w' := ChangeMaps.setBlock w b (.map ms' clock')) (x' := .mp mk' agg' (mput es kv ds)) hx' rfl rfl (by rw [hθ]; rfl) rfl rfl rfl (by simp [ChangeMaps.setBlock]) (fun j hj => setBlock_other hj)
          ⟨b, ms', clock', hθ, setBlock_heap hb, hs, hm⟩
        exact ⟨_, _, hrun, k1, k2, hK⟩
      cases hm : midx es kv with
      | none =>
        rw [hm] at hfk hput
        simp only at hput
        refine fin (ms.push { key := kv, val := uv, born := clock }) (clock + 1) ?_ (by rw [hput]; simp [hsz]) fun i k ds' hi => ?_
        · simp [Instr.mapUpdate, run_underlying ht, MapKept.run_getObj_map hb, run_chk hd hok, hfk, MapKept.run_setObj_map _ hb, Result.andThen, ChangeMaps.setBlock]
        · rw [hput, List.getElem?_append] at hi
          split at hi
          · obtain ⟨h1, m, h2, h3, h4⟩ := hc i k ds' hi
            have hil := (Array.getElem?_eq_some_iff.1 h2).1
            exact ⟨h1, m, by rw [Array.getElem?_push_lt hil, ← Array.getElem?_eq_getElem hil]; exact h2, h3, h4⟩
          · rename_i hge
            have hi0 : i = es.length := by
              have := (List.getElem?_eq_some_iff.1 hi).1; simp at this; omega
            subst hi0
            simp at hi; obtain ⟨rfl, rfl⟩ := hi
            exact ⟨hok, { key := kv, val := uv, born := clock }, by rw [← hsz]; simp, rfl, hmv⟩
      | some j =>
        rw [hm] at hfk hput
        simp only at hput
        obtain ⟨k0, ds0, hj0, hkk⟩ := midx_lt hm
        obtain ⟨h1, m, h2, h3, h4⟩ := hc j k0 ds0 hj0
        have hkv := keyEq_same hok h1 hkk
        have hjl := (Array.getElem?_eq_some_iff.1 h2).1
        simp only [h2, Option.map_some] at hfk
        refine fin (ms.modify j fun e => { e with key := kv, val := uv }) clock ?_ (by rw [hput]; simp [hsz]) fun i k ds' hi => ?_
        · have hst : (Instr.keyThatStays (((ms[j]?).map (·.key)).getD kv) kv).run P w = .ok kv w := by
            rw [h2]; simp only [Option.map_some, Option.getD_some, h3, ← hkv]; exact stays_run hok
          simp only [h2, Option.map_some, Option.getD_some] at hst
          simp [Instr.mapUpdate, run_underlying ht, MapKept.run_getObj_map hb, run_chk hd hok, hfk, h2, hst, MapKept.run_setObj_map _ hb, Result.andThen, ChangeMaps.setBlock]
        · rw [hput, List.getElem?_set] at hi
          split at hi
          · rename_i hji; subst hji
            split at hi
            · cases hi
              exact ⟨hok, { m with key := kv, val := uv }, by rw [Array.getElem?_modify, h2]; simp, rfl, hmv⟩
            · cases hi
          · rename_i hji
            obtain ⟨k1, m', k2, k3, k4⟩ := hc i k ds' hi
            exact ⟨k1, m', by rw [Array.getElem?_modify, if_neg hji]; exact k2, k3, k4⟩
    · exact h.elim
  · exact h.elim

theorem dsv_rel {agg : Bool} {ds : List D} {u : Value} (h : MVal c.F agg ds u) : Rel c (dsv agg ds) u := by
  unfold MVal at h
  cases agg with
  | false =>
    simp only [Bool.false_eq_true, if_false] at h
    obtain ⟨d, rfl, h⟩ := h
    exact .d h
  | true =>
    simp only [if_true] at h
    obtain ⟨us, rfl, h1, h2⟩ := h
    refine .agg (by simp [h1]) fun i s u hs hu => ?_
    rw [List.getElem?_map, Option.map_eq_some_iff] at hs
    obtain ⟨d, hd, rfl⟩ := hs
    obtain ⟨x, k1, k2⟩ := h2 i d hd
    rw [k1] at hu; cases hu
    exact .d k2

theorem mgetN_sound (hS : Sat c own w) {t kt e : TypeId} {mk : MK} {agg ok : Bool} {z : Value} {x k : SV} {ux uk : Value} {K : SV → Prop} (ht : P.underlying t = some (.map kt e)) (hd : P.underlying kt = some mk.desc) (hz : zeroB P e = some z)
    (hx : Rel c x ux) (hk : Rel c k uk) (h : MgetN own mk agg ok (cval z) x k K) :
    ∃ u sv, (Instr.lookup t ux uk ok).run P w = .ok u w ∧ Rel c sv u ∧ K sv := by
  have tup : ∀ {s : SV} {u : Value} (b : Bool), Rel c s u → Rel c (mres ok s b) (if ok then .tuple #[u, .bool b] else u) := fun {s u} b hr => by
    cases ok with
    | false => exact hr
    | true =>
      simp only [mres, if_true]
      exact Rel.tup_iff.2 ⟨[u, .bool b], rfl, .cons hr (.cons (.d (.val _ rfl)) .nil)⟩
  unfold MgetN at h
  split at h
  · rename_i kv
    obtain rfl : kv = uk := hk.of_val.symm
    split at h
    · rename_i r
      split at h
      · rename_i mk' agg' es hg
        obtain ⟨rfl, rfl, hok, hA, hB⟩ := h
        have hx' := getr_some hg (by simp)
        obtain ⟨b, ms, clock, hθ, hb, hsz, hc⟩ := hS.res r _ hx'
        cases hx with | hd hr ht' =>
        rw [hθ] at ht'; subst ht'
        have hc' : ∀ (i : Nat) k ds, es[i]? = some (k, ds) → mk'.ok k = true ∧ ∃ m, ms[i]? = some m ∧ m.key = k := fun i k ds hi => let ⟨h1, m, h2, h3, _⟩ := hc i k ds hi; ⟨h1, m, h2, h3⟩
        have hfk := findKey_run (w := w) hd hok hsz hc'
        cases hm : midx es kv with
        | none =>
          rw [hm] at hfk
          refine ⟨_, _, ?_, tup false (cval_rel c z), hB (by rw [mget_idx, hm]; rfl)⟩
          simp [Instr.lookup, run_underlying ht, MapKept.run_getObj_map hb, run_chk hd hok, hfk, run_zeroB hz, Result.andThen]
        | some j =>
          rw [hm] at hfk
          obtain ⟨k0, ds0, hj0, hkk⟩ := midx_lt hm
          obtain ⟨h1, m, h2, h3, h4⟩ := hc j k0 ds0 hj0
          simp only [h2, Option.map_some] at hfk
          refine ⟨_, _, ?_, tup true (dsv_rel h4), hA ds0 (by rw [mget_idx, hm]; simp [hj0])⟩
          simp [Instr.lookup, run_underlying ht, MapKept.run_getObj_map hb, run_chk hd hok, hfk, Result.andThen]
      · exact h.elim
    · obtain rfl := hx.of_val
      obtain ⟨hok, hK⟩ := h
      refine ⟨_, _, ?_, tup false (cval_rel c z), hK⟩
      have hfk := findKey_run (P := P) (w := w) (es := []) (ms := #[]) hd hok rfl (fun i k ds hi => by simp at hi)
      simp only [midx] at hfk
      simp [Instr.lookup, run_underlying ht, run_chk hd hok, hfk, run_zeroB hz, Result.andThen]
    · exact h.elim
  · exact h.elim

end
end Go.SX
