/-
  Every pure operation that the executor carries out, the model carries out.
-/
import Derived.Test.YtlahdopmiplnoaaXSxC
namespace Go.SX
open Go

section
variable {P : Program} {c : Cx} {own : List Res} {env : List SV} {a : Act} {w : World}

theorem eqGuard_scalar {op : BinOp} {t : TypeId} {x y : Operand} {u v : Value} (h : (∃ k n, u = .int k n) ∨ (∃ s, u = .string s) ∨ ∃ b, u = .bool b) :
    (eqGuard op t x y u v).run P w = .ok () w := by
  rcases h with ⟨k, n, rfl⟩ | ⟨s, rfl⟩ | ⟨b, rfl⟩
  · have : eqGuard op t x y (.int k n) v = pure () := by cases op <;> rfl
    rw [this]; rfl
  · have : eqGuard op t x y (.string s) v = pure () := by cases op <;> rfl
    rw [this]; rfl
  · have : eqGuard op t x y (.bool b) v = pure () := by cases op <;> rfl
    rw [this]; rfl

theorem sbin_scalar {op : BinOp} {x y sv : SV} {u : Value} (hx : Rel c x u) (h : sbin op x y = some sv) : (∃ k n, u = .int k n) ∨ (∃ s, u = .string s) ∨ ∃ b, u = .bool b := by
  unfold sbin at h
  split at h
  · obtain rfl := hx.of_val; exact .inl ⟨_, _, rfl⟩
  · obtain rfl := hx.of_val; exact .inr (.inl ⟨_, rfl⟩)
  · simp at h

theorem partsB_spec {fs : Array Field} (ps : List (Nat × Operand)) : ∀ {l}, partsB P fs ps = some l →
    l.length = ps.length ∧ ∀ (i : Nat) p q, ps[i]? = some p → l[i]? = some q → q.2 = p.2 ∧ ∃ f, fs[p.1]? = some f ∧ q.1.1 = f.offset ∧ sizeB P f.type = some q.1.2 := by
  induction ps with
  | nil => intro l h; simp [partsB] at h; subst h; simp
  | cons p ps ih =>
    intro l h
    obtain ⟨i, x⟩ := p
    simp only [partsB, Option.bind_eq_bind, Option.bind_eq_some_iff] at h
    obtain ⟨f, hf, s, hs, r, hr, h⟩ := h
    cases h
    obtain ⟨h1, h2⟩ := ih hr
    refine ⟨by simp [h1], fun j p q hp hq => ?_⟩
    cases j with
    | zero => simp at hp hq; subst hp; subst hq; exact ⟨rfl, f, hf, rfl, hs⟩
    | succ j => simp at hp hq; exact h2 j p q hp hq

theorem mapM_places (fs : Array Field) (hs : ∀ (i : Nat) f, fs[i]? = some f → ∃ s, sizeB P f.type = some s) :
    ∃ l : Array (Nat × Nat), (fs.mapM fun f => (do pure (f.offset, ← sizeOf f.type) : Sem (Nat × Nat))).run P w = .ok l w ∧
      ∀ (i : Nat) f s, fs[i]? = some f → sizeB P f.type = some s → l[i]? = some (f.offset, s) := by
  rw [Array.mapM_eq_mapM_toList]
  suffices h : ∀ l : List Field, (∀ f ∈ l, ∃ s, sizeB P f.type = some s) → ∃ r : List (Nat × Nat), (l.mapM fun f => (do pure (f.offset, ← sizeOf f.type) : Sem (Nat × Nat))).run P w = .ok r w ∧
      ∀ (i : Nat) f s, l[i]? = some f → sizeB P f.type = some s → r[i]? = some (f.offset, s) by
    obtain ⟨r, h1, h2⟩ := h fs.toList (fun f hf => by obtain ⟨i, hi⟩ := List.getElem?_of_mem hf; exact hs i f (by simpa using hi))
    refine ⟨r.toArray, ?_, fun i f s hf hs => by simpa using h2 i f s (by simpa using hf) hs⟩
    rw [Sem.run_map, h1]; rfl
  intro l
  induction l with
  | nil => intro _; exact ⟨[], by simp, fun i f s hf => by simp at hf⟩
  | cons f l ih =>
    intro h
    obtain ⟨s, hs⟩ := h f (by simp)
    obtain ⟨r, h1, h2⟩ := ih fun f hf => h f (by simp [hf])
    refine ⟨(f.offset, s) :: r, ?_, fun i g t hg ht => ?_⟩
    · simp only [List.mapM_cons, Sem.run_bind, run_sizeOf hs, Result.andThen_ok, Sem.run_pure]
      rw [h1]; rfl
    · cases i with
      | zero => simp at hg; subst hg; rw [hs] at ht; cases ht; rfl
      | succ i => simp at hg; simpa using h2 i g t hg ht

theorem run_zeroB {t : TypeId} {z : Value} (h : zeroB P t = some z) : (zeroValue t).run P w = .ok z w := by
  unfold zeroB at h
  cases hq : P.info? t with
  | none => simp [hq] at h
  | some i => simp [hq] at h; simp [zeroValue, typeInfo, hq, h]

theorem cval_cells {z : Value} : RelL c (cval z).cells z.cells.toList := by
  cases z with
  | agg cs =>
    obtain ⟨us, h1, h2⟩ := Rel.agg_iff.1 (cval_rel c (.agg cs))
    cases h1; simpa [cval, SV.cells, Value.cells] using h2
  | tuple cs =>
    have h := cval_rel c (.tuple cs)
    have : (cval (.tuple cs)).cells = [cval (.tuple cs)] := by simp only [cval]; split <;> rfl
    rw [this]
    exact .cons h .nil
  | _ => exact .cons (cval_rel c _) .nil

theorem pure_sound {e : Operand → SV} (hE : ∀ x, Rel c (e x) (a.eval x)) (hS : Sat c own w) {o : Oper} {d : DOp} {sv : SV} (hc : compOp P o.op = some d) (hp : pureOp own e d = some sv) :
    ∃ u, (execOp a.eval o).run P w = .ok (.value u) w ∧ Rel c sv u := by
  have fin : ∀ (s : Sem Value), (∃ u, s.run P w = .ok u w ∧ Rel c sv u) → ∃ u, (do pure (Next.value (← s)) : Sem Next).run P w = .ok (.value u) w ∧ Rel c sv u := by
    rintro s ⟨u, h1, h2⟩
    exact ⟨u, by rw [Sem.run_bind, h1]; rfl, h2⟩
  unfold execOp
  generalize o.op = op at hc ⊢
  cases op with
  | move x => cases hc; cases hp; exact ⟨_, rfl, hE x⟩
  | assign x => cases hc; cases hp; exact ⟨_, rfl, hE x⟩
  | pick x y z =>
    cases hc
    obtain ⟨b, h1, h2⟩ := spick_sound (hE x) (hE y) (hE z) hp
    refine ⟨_, ?_, h2⟩
    simp [h1, asBool]
  | binOp op t x y ty =>
    refine fin _ ?_
    simp only [compOp] at hc
    have hx := hE x
    have hy := hE y
    have bin : d = .bin op x y → ∃ u, (do eqGuard op t x y (a.eval x) (a.eval y); binOp op t (a.eval x) (a.eval y) : Sem Value).run P w = .ok u w ∧ Rel c sv u := by
      rintro rfl
      obtain ⟨r, h1, h2⟩ := sbin_sound (P := P) (w := w) (t := t) hx hy hp
      refine ⟨r, ?_, h2⟩
      rw [Sem.run_bind, eqGuard_scalar (sbin_scalar hx hp)]
      exact h1
    have beq : ∀ n, P.underlying t = some .bool → op = (if n then .neq else .eql) → d = .beq n x y → ∃ u, (do eqGuard op t x y (a.eval x) (a.eval y); binOp op t (a.eval x) (a.eval y) : Sem Value).run P w = .ok u w ∧ Rel c sv u := by
      rintro n ht rfl rfl
      obtain ⟨r, h1, h2⟩ := sbeq_sound (P := P) (w := w) ht hx hy hp
      refine ⟨r, ?_, h2⟩
      have hb : ∃ b, a.eval x = .bool b := by
        simp only [pureOp, sbeq] at hp
        split at hp
        · rename_i h1 h2; rw [h1] at hx; exact ⟨_, hx.of_val⟩
        · simp at hp
      rw [Sem.run_bind, eqGuard_scalar (.inr (.inr hb))]
      exact h1
    split at hc
    · rename_i ht
      split at hc
      · cases hc; exact beq false ht rfl rfl
      · cases hc; exact beq true ht rfl rfl
      · simp at hc
    · split at hc
      · cases hc; simp [pureOp] at hp
      · cases hc; simp [pureOp] at hp
      · cases hc; exact bin rfl
    · cases hc; exact bin rfl
    · simp at hc
  | unOp op t x =>
    cases hc
    exact fin _ (sun_sound (hE x) hp)
  | convert s t x =>
    simp only [compOp] at hc
    split at hc
    · rename_i ks k hs ht
      cases hc
      exact fin _ (scvi_sound hs ht (hE x) hp)
    · simp at hc
  | fieldAddr t x f =>
    simp only [compOp] at hc
    split at hc
    · rename_i fs ht
      simp only [Option.bind_eq_bind, Option.bind_eq_some_iff] at hc
      obtain ⟨fd, hf, s, hs, hc⟩ := hc
      split at hc
      · simp at hc
      · rename_i hs0
        cases hc
        obtain ⟨b, k, h1, h2⟩ := sfadd_sound (hE x) hp
        refine fin _ ⟨_, ?_, h2⟩
        simp only [Instr.fieldAt, Sem.run_bind, run_underlying ht, Result.andThen_ok, hf, h1, Instr.sureAddr, Sem.run_pure, fieldPlace, run_sizeOf hs, hs0, if_false, add_none]
    · simp at hc
  | field t x f =>
    simp only [compOp] at hc
    split at hc
    · rename_i fs ht
      simp only [Option.bind_eq_bind, Option.bind_eq_some_iff] at hc
      obtain ⟨fd, hf, s, hs, dd, hd, hc⟩ := hc
      cases hc
      obtain ⟨us, v, h1, h2, h3⟩ := sfld_sound (P := P) (w := w) hs hd (hE x) hp
      refine fin _ ⟨v, ?_, h3⟩
      simp only [Instr.field, Sem.run_bind, run_underlying ht, Result.andThen_ok, hf, h1, asAgg, Sem.run_pure, h2]
    · simp at hc
  | load t x =>
    simp only [compOp, Option.bind_eq_bind, Option.bind_eq_some_iff] at hc
    obtain ⟨s, hs, dd, hd, hc⟩ := hc
    cases hc
    exact fin _ (sload_sound hS hs hd (hE x) hp)
  | build t ps =>
    simp only [compOp] at hc
    have hvs : ∀ (i : Nat) (p : Nat × Operand) v, ps.toList[i]? = some p → (ps.map fun x => (x.1, a.eval x.2)).toList[i]? = some v → v = (p.1, a.eval p.2) := fun i p v h1 h2 => by
      simp at h1 h2
      obtain ⟨q, r, h2, rfl⟩ := h2
      rw [h1] at h2; cases h2; rfl
    split at hc
    · rename_i fs ht
      simp only [Option.bind_eq_bind, Option.bind_eq_some_iff] at hc
      obtain ⟨z, hz, l, hl, hc⟩ := hc
      split at hc
      · rename_i hall
        cases hc
        obtain ⟨hlen, hsp⟩ := partsB_spec _ hl
        obtain ⟨places, hrun, hpl⟩ := mapM_places (P := P) (w := w) fs (fun i f hf => by
          have := List.all_eq_true.1 hall f (List.mem_of_getElem? (by simpa using hf))
          exact Option.isSome_iff_exists.1 this)
        simp only [pureOp, sbuild] at hp
        split at hp
        · rename_i cs' hfill
          cases hp
          have hzr : RelL c (cval z).cells z.cells.toList := cval_cells
          obtain ⟨us', h1, h2⟩ := fill_sound hS.one (places[·]?) (l.map fun p => (p.1, e p.2)) (ps.map fun x => (x.1, a.eval x.2)).toList _ cs' z.cells (by simp [hlen]) (fun i p v hp hv => by
            simp only [List.getElem?_map, Option.map_eq_some_iff] at hp
            obtain ⟨q, hq, rfl⟩ := hp
            have hi : i < ps.toList.length := by rw [← hlen]; exact (List.getElem?_eq_some_iff.1 hq).1
            have hpi : ps.toList[i]? = some ps.toList[i] := by simp []
            obtain ⟨e1, f, hf, e2, e3⟩ := hsp i _ q hpi hq
            rw [hvs i _ v hpi hv]
            refine ⟨?_, by rw [e1]; exact hE _⟩
            rw [hpl _ f _ hf e3]
            simp only [← e2]) hzr hfill
          refine fin _ ⟨.agg us', ?_, Rel.agg_iff.2 ⟨us'.toList, by simp, h2⟩⟩
          simp only [Instr.build, Sem.run_bind, run_zeroB hz, Result.andThen_ok, run_underlying ht, hrun, h1, Sem.run_pure]
        · simp at hp
      · simp at hc
    · rename_i n e' ht
      simp only [Option.bind_eq_bind, Option.bind_eq_some_iff] at hc
      obtain ⟨z, hz, s, hs, hc⟩ := hc
      cases hc
      simp only [pureOp, sbuild] at hp
      split at hp
      · rename_i cs' hfill
        cases hp
        have hzr : RelL c (cval z).cells z.cells.toList := cval_cells
        obtain ⟨us', h1, h2⟩ := fill_sound hS.one (fun i => some (i * s, s)) ((ps.toList.map fun p => ((p.1 * s, s), p.2)).map fun p => (p.1, e p.2)) (ps.map fun x => (x.1, a.eval x.2)).toList _ cs' z.cells (by simp) (fun i p v hp hv => by
          simp only [List.getElem?_map, Option.map_eq_some_iff] at hp
          obtain ⟨q, ⟨q', hq, rfl⟩, rfl⟩ := hp
          rw [hvs i _ v hq hv]
          exact ⟨rfl, hE _⟩) hzr hfill
        refine fin _ ⟨.agg us', ?_, Rel.agg_iff.2 ⟨us'.toList, by simp, h2⟩⟩
        simp only [Instr.build, Sem.run_bind, run_zeroB hz, Result.andThen_ok, run_underlying ht, run_sizeOf hs, h1, Sem.run_pure]
      · simp at hp
    · simp at hc
  | makeFunc fn fs cs =>
    cases hc; cases hp
    refine fin _ ⟨_, rfl, Rel.clo_iff.2 ⟨_, _, ?_, rels_map hE _, rels_map hE _⟩⟩
    congr 1 <;> (apply Array.toList_inj.1; simp)
  | extract x i =>
    cases hc
    exact fin _ (sext_sound (hE x) hp)
  | nilCheck x =>
    cases hc
    obtain ⟨h1, h2⟩ := snil_sound (hE x) hp
    refine ⟨a.eval x, ?_, h1⟩
    rcases h2 with ⟨ad, h2⟩ | ⟨f, as, bs, h2⟩
    · simp [h2]
    · simp [h2]
  | call cl =>
    obtain ⟨callee, args, argTypes⟩ := cl
    cases callee with
    | value f => cases f <;> (simp only [compOp] at hc; cases hc; simp [pureOp] at hp)
    | invoke r m => simp [compOp] at hc
    | builtin b =>
      have res : (do let d ← resolve a.eval { callee := .builtin b, args := args, argTypes := argTypes } o.type; invoke d.target d.args : Sem Next).run P w =
          (builtin b argTypes o.type (args.map fun | .const _ => true | _ => false) (args.map a.eval)).run P w := by
        simp [resolve, invoke]
        rfl
      suffices h : ∃ u, (builtin b argTypes o.type (args.map fun | .const _ => true | _ => false) (args.map a.eval)).run P w = .ok (.value u) w ∧ Rel c sv u by
        obtain ⟨u, h1, h2⟩ := h
        exact ⟨u, res.trans h1, h2⟩
      have args1 : ∀ l, args.toList = l → args = l.toArray := fun l h => by rw [← h]
      cases b <;> simp only [compOp] at hc <;> try (simp at hc; done)
      case append =>
        split at hc
        · split at hc
          · simp only [Option.bind_eq_bind, Option.bind_eq_some_iff] at hc
            obtain ⟨i, hi, z, hz, hc⟩ := hc
            split at hc
            · cases hc; simp [pureOp] at hp
            · simp at hc
          · simp at hc
        · simp at hc
      case clear =>
        split at hc
        · split at hc
          · simp only [Option.bind_eq_bind, Option.bind_eq_some_iff] at hc
            obtain ⟨z, hz, hc⟩ := hc
            cases hc; simp [pureOp] at hp
          · simp at hc
        · simp at hc
      case len =>
        split at hc
        · rename_i t x ht hx
          have e1 := args1 _ hx
          have e2 : argTypes = #[t] := by rw [← Array.toList_inj, ht]
          subst e1; subst e2
          split at hc
          · rename_i e' hu
            cases hc
            obtain ⟨v, h1, h2⟩ := slen_sound (P := P) (w := w) (t := t) (ty := o.type) (str := false) hS (by simpa using ⟨e', hu⟩) (hE x) hp
            exact ⟨v, by simp only [builtin, List.map_toArray, List.map_cons, List.map_nil, Sem.run_bind, h1, Result.andThen_ok, Sem.run_pure], h2⟩
          · rename_i hu
            cases hc
            obtain ⟨v, h1, h2⟩ := slen_sound (P := P) (w := w) (t := t) (ty := o.type) (str := true) hS (by simpa using hu) (hE x) hp
            exact ⟨v, by simp only [builtin, List.map_toArray, List.map_cons, List.map_nil, Sem.run_bind, h1, Result.andThen_ok, Sem.run_pure], h2⟩
          · simp at hc
        · simp at hc
      case max =>
        split at hc
        · rename_i x xs hx
          have e1 := args1 _ hx
          subst e1
          cases hc
          obtain ⟨v, h1, h2⟩ := smm_sound (P := P) (w := w) true _ (hE x) (rels_map hE xs) hp
          exact ⟨v, by simp only [builtin, Builtin.max_, List.map_toArray, List.map_cons, Sem.run_bind]; simp only [if_true] at h1; rw [h1]; rfl, h2⟩
        · simp at hc
      case min =>
        split at hc
        · rename_i x xs hx
          have e1 := args1 _ hx
          subst e1
          cases hc
          obtain ⟨v, h1, h2⟩ := smm_sound (P := P) (w := w) false _ (hE x) (rels_map hE xs) hp
          exact ⟨v, by simp only [builtin, Builtin.min_, List.map_toArray, List.map_cons, Sem.run_bind]; simp only [Bool.false_eq_true, if_false] at h1; rw [h1]; rfl, h2⟩
        · simp at hc
  | store t x v =>
    simp only [compOp, Option.bind_eq_bind, Option.bind_eq_some_iff] at hc
    obtain ⟨s, hs, hc⟩ := hc
    cases hc; simp [pureOp] at hp
  | alloc t =>
    simp only [compOp, Option.bind_eq_bind, Option.bind_eq_some_iff] at hc
    obtain ⟨s, hs, hc⟩ := hc
    cases hc; simp [pureOp] at hp
  | box t x => cases hc; simp [pureOp] at hp
  | buildSlice t n ps =>
    simp only [compOp] at hc
    split at hc
    · simp only [Option.bind_eq_bind, Option.bind_eq_some_iff] at hc
      obtain ⟨s, hs, z, hz, hc⟩ := hc
      split at hc
      · simp at hc
      · cases hc; simp [pureOp] at hp
    · simp at hc
  | indexAddr t x i =>
    simp only [compOp] at hc
    split at hc
    · simp only [Option.bind_eq_bind, Option.bind_eq_some_iff] at hc
      obtain ⟨s, hs, hc⟩ := hc
      cases hc; simp [pureOp] at hp
    · simp only [Option.bind_eq_bind, Option.bind_eq_some_iff] at hc
      obtain ⟨s, hs, hc⟩ := hc
      cases hc; simp [pureOp] at hp
    · simp at hc
  | slice t x lo hi mx =>
    cases mx with
    | some m => simp [compOp] at hc
    | none =>
      simp only [compOp] at hc
      split at hc
      · simp only [Option.bind_eq_bind, Option.bind_eq_some_iff] at hc
        obtain ⟨s, hs, hc⟩ := hc
        cases hc; simp [pureOp] at hp
      · cases hc; simp [pureOp] at hp
      · simp at hc
  | makeSlice t l k =>
    simp only [compOp] at hc
    split at hc
    · simp only [Option.bind_eq_bind, Option.bind_eq_some_iff] at hc
      obtain ⟨s, hs, z, hz, hc⟩ := hc
      cases hc; simp [pureOp] at hp
    · simp at hc
  | makeMap t r =>
    cases r with
    | some r => simp [compOp] at hc
    | none =>
      simp only [compOp] at hc
      split at hc
      · simp only [Option.bind_eq_bind, Option.bind_eq_some_iff] at hc
        obtain ⟨mk, hm, d', hd, hc⟩ := hc
        cases hc; simp [pureOp] at hp
      · simp at hc
  | mapUpdate t m k v =>
    simp only [compOp] at hc
    split at hc
    · simp only [Option.bind_eq_bind, Option.bind_eq_some_iff] at hc
      obtain ⟨mk, hm, d', hd, hc⟩ := hc
      cases hc; simp [pureOp] at hp
    · simp at hc
  | lookup t m k ok =>
    simp only [compOp] at hc
    split at hc
    · simp only [Option.bind_eq_bind, Option.bind_eq_some_iff] at hc
      obtain ⟨mk, hm, d', hd, z, hz, hc⟩ := hc
      cases hc; simp [pureOp] at hp
    · simp at hc
  | _ => simp [compOp] at hc

end
end Go.SX
