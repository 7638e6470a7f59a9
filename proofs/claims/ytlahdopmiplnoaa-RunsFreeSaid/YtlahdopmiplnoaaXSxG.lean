/-
  What is owed at an operation is enough: freezing, indexing, loading.
-/
import Derived.Test.YtlahdopmiplnoaaXSxF
namespace Go.SX
open Go

section
variable {P : Program} {c : Cx} {own : List Res} {env : List SV} {a : Act} {w w' : World} {o : Oper} {K : SV → List Res → Prop} {Q : Exit → Act → World → Prop}

/-- How an operation ends. -/
def Fin (c : Cx) (own : List Res) (w : World) (a : Act) (dst : Option Tmp) (K : SV → List Res → Prop) : Act → World → Prop :=
  fun a' w' => ∃ c' sv own' u, a' = a.put dst u ∧ Rel c' sv u ∧ Sat c' own' w' ∧ c.le c' ∧ Goes c own w c' own' w' ∧ K sv own'

theorem wp_val {next : Act → World → Prop} {u : Value} (h : (execOp a.eval o).run P w = .ok (.value u) w') (hn : next (a.put o.dst u) w') : o.wp P a w next Q := by
  unfold Oper.wp; rw [h]; exact hn
theorem wp_skp {next : Act → World → Prop} (h : (execOp a.eval o).run P w = .ok .skip w') (hn : next (a.put o.dst undef) w') : o.wp P a w next Q := by
  unfold Oper.wp; rw [h]; exact hn

theorem wp_sem {s : Sem Value} {next : Act → World → Prop} {u : Value} (he : execOp a.eval o = (do pure (Next.value (← s)) : Sem Next)) (h : s.run P w = .ok u w') (hn : next (a.put o.dst u) w') : o.wp P a w next Q := by
  refine wp_val (u := u) ?_ hn
  rw [he, Sem.run_bind, h]; rfl

theorem fin_same {sv : SV} {u : Value} (hS : Sat c own w) (hr : Rel c sv u) (hK : K sv own) : Fin c own w a o.dst K (a.put o.dst u) w :=
  ⟨c, sv, own, u, rfl, hr, hS, .refl c, .refl c own w, hK⟩

theorem pureN_iff {x : Option SV} {K : SV → Prop} : PureN x K ↔ ∃ sv, x = some sv ∧ K sv := by
  cases x with
  | none => simp [PureN]
  | some sv => simp [PureN]

/-- Freezing. -/

theorem Ons.refl (hS : Sat c own w) : Ons c own w own := ⟨c, hS, .refl c, .refl c own w⟩

theorem frzC_ok (hS : Sat c own w) (s : SV) : Ons c own w (frzC own s) := by
  unfold frzC
  split
  · rename_i r
    split
    · rename_i ty sz es hg
      rw [getr_eq] at hg
      cases hx : own[r]? with
      | none => simp [hx] at hg
      | some y =>
        simp [hx] at hg; subst hg
        obtain ⟨c', h1, h2, h3, _⟩ := hS.freeze hx
        rw [setr_eq]
        exact ⟨c', h1, h2, h3⟩
    · exact .refl hS
  · exact .refl hS

theorem Ons.trans {own1 own2 : List Res} (h : Ons c own w own1) (k : ∀ c1, Sat c1 own1 w → Ons c1 own1 w own2) : Ons c own w own2 := by
  obtain ⟨c1, h1, h2, h3⟩ := h
  obtain ⟨c2, k1, k2, k3⟩ := k c1 h1
  exact ⟨c2, k1, h2.trans k2, h3.trans k3⟩

theorem frzCs_ok (l : List SV) : ∀ {c own}, Sat c own w → Ons c own w (frzCs own l) := by
  induction l with
  | nil => intro c own hS; exact .refl hS
  | cons s l ih => intro c own hS; exact (frzC_ok hS s).trans fun c1 h1 => ih h1

theorem frzS_ok (hS : Sat c own w) (s : SV) : Ons c own w (frzS own s) := by
  unfold frzS
  split
  · exact frzCs_ok _ hS
  · exact frzC_ok hS _

theorem frzL_ok (l : List SV) : ∀ {c own}, Sat c own w → Ons c own w (frzL own l) := by
  induction l with
  | nil => intro c own hS; exact .refl hS
  | cons s l ih => intro c own hS; exact (frzS_ok hS s).trans fun c1 h1 => ih h1

/-- A step behind a freeze. -/
theorem fin_ons {own1 : List Res} {c1 : Cx} {dst : Option Tmp} {a' : Act} {w' : World} (hle : c.le c1) (hg : Goes c own w c1 own1 w) (h : Fin c1 own1 w a dst K a' w') : Fin c own w a dst K a' w' := by
  obtain ⟨c', sv, own', u, h1, h2, h3, h4, h5, h6⟩ := h
  exact ⟨c', sv, own', u, h1, h2, h3, hle.trans h4, hg.trans h5, h6⟩

theorem Rep.sl_inv {F : Fz} {u : Value} {es : List (List D)} (h : Rep F u (.sl es)) {i : Nat} {ds : List D} (hi : es[i]? = some ds) :
    ∃ b off cap cs e fr, u = .slice (some ⟨b, off, none⟩) es.length cap ∧ F b = some (.cells cs e fr) ∧ ∀ (j : Nat) d, ds[j]? = some d → ∃ v, cs[off + i * ds.length + j]? = some v ∧ Rep F v d := by
  cases h with
  | nil a cap => simp at hi
  | sl b off cap cs e fr es sz g hF hcap hsz hc hr =>
    exact ⟨b, off, cap, cs, e, fr, rfl, hF, fun j d hj => ⟨g i j, by rw [hsz i ds hi]; exact hc i ds j d hi hj, hr i ds j d hi hj⟩⟩

theorem getr_some {r : Nat} {x : Res} (h : getr own r = x) (hx : x ≠ .gone) : own[r]? = some x := by
  rw [getr_eq] at h
  cases hr : own[r]? with
  | none => simp [hr] at h; exact absurd h.symm hx
  | some y => simp [hr] at h; rw [h]

theorem idxN_sound (hS : Sat c own w) {t e : TypeId} {sz : Nat} {x i : SV} {u v : Value} {K : SV → Prop} (ht : P.underlying t = some (.slice e)) (hs : sizeB P e = some sz)
    (hx : Rel c x u) (hi : Rel c i v) (h : IdxN own sz x i K) : ∃ p sv, (Instr.indexAt t u v).run P w = .ok p w ∧ Rel c sv p ∧ K sv := by
  unfold IdxN at h
  split at h
  · rename_i es k n
    obtain rfl := hi.of_val
    obtain ⟨h0, h1, h2⟩ := h
    have hlt : n.toNat < es.length := by omega
    have hget : es[n.toNat]? = some es[n.toNat] := by simp [hlt]
    obtain ⟨hds, hK⟩ := h2 _ hget
    cases hx with | d hx =>
    obtain ⟨b, off, cap, cs, e', fr, rfl, hF, hc⟩ := hx.sl_inv hget
    refine ⟨.pointer (some ⟨b, off + n.toNat * sz, none⟩), .fp es[n.toNat], ?_, ?_, hK⟩
    · simp only [Instr.indexAt, asIntOf, Sem.run_bind, Sem.run_pure, Result.andThen_ok, run_underlying ht]
      rw [if_pos ⟨h0, h1⟩]
      simp only [Sem.run_bind, run_sizeOf hs, Result.andThen_ok, Sem.run_pure, add_none]
    · exact .fp hF fun j d hj => by rw [← hds]; exact hc j d hj
  · rename_i r k n
    obtain rfl := hi.of_val
    split at h
    · rename_i ty s es hg
      obtain ⟨rfl, h0, h1, hK⟩ := h
      have hres := hS.res r _ (getr_some hg (by simp))
      obtain ⟨hd, us, ⟨hn, hv⟩, _⟩ := hres
      cases hx with | hd hr hv' =>
      rcases hv with ⟨_, hv0⟩ | ⟨b, cap, cur, hv, _⟩
      · omega
      · rw [hv] at hv'
        refine ⟨.pointer (some ⟨b, n.toNat * s + 0, none⟩), .rp r s n.toNat 0, ?_, .rp hr hv, hK⟩
        rw [← hv']
        simp only [Instr.indexAt, asIntOf, Sem.run_bind, Sem.run_pure, Result.andThen_ok, run_underlying ht]
        rw [if_pos ⟨h0, h1⟩]
        simp only [Sem.run_bind, run_sizeOf hs, Result.andThen_ok, Sem.run_pure, add_none, Nat.zero_add, Nat.add_zero]
    · exact h.elim
  · rename_i r s i0 k n
    obtain rfl := hi.of_val
    split at h
    · rename_i ty s' es hg
      obtain ⟨rfl, rfl, h0, h1, hK⟩ := h
      have hres := hS.res r _ (getr_some hg (by simp))
      obtain ⟨hd, us, ⟨hn, hv⟩, _⟩ := hres
      cases hx with | rs hr hval =>
      obtain ⟨ad, nn, cap', hu, hin, rfl⟩ := hval
      rcases hv with ⟨_, hv0⟩ | ⟨b, cap, cur, hv, _, _, hcap, _⟩
      · omega
      · rw [hv] at hu
        cases hu
        refine ⟨.pointer (some ⟨b, (i0 + n.toNat) * s' + 0, none⟩), .rp r s' (i0 + n.toNat) 0, ?_, .rp hr hv, hK⟩
        rw [if_neg (by omega)]
        simp only [Option.map_some, add_none, Nat.zero_add]
        simp only [Instr.indexAt, asIntOf, Sem.run_bind, Sem.run_pure, Result.andThen_ok, run_underlying ht]
        rw [if_pos ⟨h0, by omega⟩]
        simp only [Sem.run_bind, run_sizeOf hs, Result.andThen_ok, Sem.run_pure, add_none, Nat.add_mul, Nat.add_zero]
    · exact h.elim
  · exact h.elim

theorem idxPN_sound {t e : TypeId} {len sz : Nat} {x i : SV} {u v : Value} {K : SV → Prop} (ht : P.underlying t = some (.array len e)) (hs : sizeB P e = some sz)
    (hx : Rel c x u) (hi : Rel c i v) (h : IdxPN len sz x i K) : ∃ p sv, (Instr.indexAt t u v).run P w = .ok p w ∧ Rel c sv p ∧ K sv := by
  have key : ∀ (b off : Nat) (k : IntKind) (n : Int), 0 ≤ n → n < len → (Instr.indexAt t (.pointer (some ⟨b, off, none⟩)) (.int k n)).run P w = .ok (.pointer (some ⟨b, off + n.toNat * sz, none⟩)) w := fun b off k n h0 h1 => by
    simp only [Instr.indexAt, asIntOf, Sem.run_bind, Sem.run_pure, Result.andThen_ok, run_underlying ht, Instr.sureAddr]
    rw [if_pos ⟨h0, h1⟩]
    simp only [Sem.run_bind, run_sizeOf hs, Result.andThen_ok, Sem.run_pure, add_none]
  unfold IdxPN at h
  split at h
  · rename_i r k kk n
    obtain rfl := hi.of_val
    obtain ⟨h0, h1, hK⟩ := h
    cases hx with | @ptr _ _ b hr hv => exact ⟨_, _, key b k kk n h0 h1, .ptr hr hv, hK⟩
  · rename_i ds kk n
    obtain rfl := hi.of_val
    obtain ⟨h0, h1, hK⟩ := h
    cases hx with | @fp b off cs e' fr _ hF hh =>
    refine ⟨_, _, key b off kk n h0 h1, .fp hF fun j d hj => ?_, hK⟩
    rw [List.getElem?_drop] at hj
    obtain ⟨u, h1, h2⟩ := hh _ d hj
    exact ⟨u, by rw [Nat.add_assoc]; exact h1, h2⟩
  · exact h.elim

theorem loadN_sound (hS : Sat c own w) {t s : Nat} {d : TypeDesc} (hs : sizeB P t = some s) (hd : P.underlying t = some d) {x : SV} {u : Value} {K : SV → Prop} (hr : Rel c x u)
    (h : LoadN own s (isAggB d) x K) : ∃ v sv, (Instr.loadAt t u).run P w = .ok v w ∧ Rel c sv v ∧ K sv := by
  unfold LoadN at h
  split at h
  · rename_i r sz i j
    split at h
    · rename_i ty s' es hg
      obtain ⟨rfl, hi, h⟩ := h
      have hget : es[i]? = some es[i] := by simp [hi]
      obtain ⟨sv, hl, hK⟩ := pureN_iff.1 (h _ hget)
      obtain ⟨hd', us, ⟨hn, hv⟩, hc⟩ := hS.res r _ (getr_some hg (by simp))
      cases hr with | @rp _ _ _ _ b n cap hr hv' =>
      rcases hv with ⟨hv, hv0⟩ | ⟨b', cap', cur, hv, _, hb, hle, hm, hcs, htake⟩
      · rw [hv] at hv'; cases hv'
      · rw [hv] at hv'; cases hv'
        obtain ⟨l, hsee, hk⟩ := sload_takes hl
        change some _ = some l at hsee; injection hsee with hsee; subst hsee
        obtain ⟨v, h1, h2⟩ := load_l (P := P) (c := c) (w := w) (b := b) (off := i * sz + j) hs hd (fun k sv' hk' => by
          simp only [List.getElem?_map, Option.map_eq_some_iff] at hk'
          obtain ⟨d', hd2, rfl⟩ := hk'
          rw [List.getElem?_drop] at hd2
          have hlen : es[i].length = sz := hd' _ (by simp)
          have hj : j + k < sz := by rw [← hlen]; exact (List.getElem?_eq_some_iff.1 hd2).1
          obtain ⟨u, h1, h2⟩ := hc (i * sz + (j + k)) d' (by rw [flatten_get hd' i (j + k) _ hget hj]; exact hd2)
          refine ⟨u, ?_, .d h2⟩
          rw [cell_of_row w b _ _ _ _ hb]
          rw [← htake, List.getElem?_take] at h1
          split at h1
          · rw [← Nat.add_assoc] at h1; simpa using h1
          · cases h1) hk
        exact ⟨v, sv, h1, h2, hK⟩
    · exact h.elim
  · obtain ⟨sv, hl, hK⟩ := pureN_iff.1 h
    obtain ⟨v, h1, h2⟩ := sload_sound hS hs hd hr hl
    exact ⟨v, sv, h1, h2, hK⟩

end
theorem CallN.own {P : Program} {f : FuncId} {own : List Res} {args : List SV} {K : SV → List Res → Prop} (h : SCall P f own args K) : CallN P f own args K := ⟨own, args, fun _ _ hS => .refl hS, fun _ _ _ _ hr => hr, h⟩

end Go.SX
