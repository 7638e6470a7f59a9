/-
  Every operation: what is owed is enough; a region in the order of its text.
-/
import Derived.Test.YtlahdopmiplnoaaXSxJm
namespace Go.SX
open Go

section
variable {P : Program} {c : Cx} {own : List Res} {env : List SV} {a : Act} {w w' : World} {o : Oper} {K : SV → List Res → Prop} {Q : Exit → Act → World → Prop}

theorem fin_ons_wp {own1 : List Res} {c1 : Cx} (hle : c.le c1) (hg : Goes c own w c1 own1 w) (h : o.wp P a w (Fin c1 own1 w a o.dst K) Q) : o.wp P a w (Fin c own w a o.dst K) Q :=
  Oper.wp_mono (fun _ _ h => fin_ons hle hg h) h

theorem opN_sound {d : DOp} (hc : compOp P o.op = some d) (hE : EnvOk c env a) (hS : Sat c own w) (h : opN P d env own K) : o.wp P a w (Fin c own w a o.dst K) Q := by
  have hf : ∀ x, Rel c (evn own env x) (a.eval x) := fun x => nrm_rel hS (ev_rel hE x)
  have pure : ∀ sv, pureOp own (evn own env) d = some sv → K sv own → o.wp P a w (Fin c own w a o.dst K) Q := fun sv hp hK => by
    obtain ⟨u, h1, h2⟩ := pure_sound (w := w) hf hS hc hp
    exact wp_val h1 (fin_same hS h2 hK)
  have pureN : ∀ x, pureOp own (evn own env) d = x → PureN x (fun sv => K sv own) → o.wp P a w (Fin c own w a o.dst K) Q := fun x hx hP => by
    obtain ⟨sv, h1, h2⟩ := pureN_iff.1 hP
    exact pure sv (hx.trans h1) h2
  have val : ∀ (s : Sem Value), execOp a.eval o = (do Pure.pure (Next.value (← s)) : Sem Next) → (∃ u sv, s.run P w = .ok u w ∧ Rel c sv u ∧ K sv own) → o.wp P a w (Fin c own w a o.dst K) Q := by
    rintro s he ⟨u, sv, h1, h2, h3⟩
    exact wp_sem he h1 (fin_same hS h2 h3)
  have valF : ∀ (s : Sem Value), execOp a.eval o = (do Pure.pure (Next.value (← s)) : Sem Next) → (∃ u w', s.run P w = .ok u w' ∧ Fin c own w a o.dst K (a.put o.dst u) w') → o.wp P a w (Fin c own w a o.dst K) Q := by
    rintro s he ⟨u, w', h1, h2⟩
    exact wp_sem he h1 h2
  cases hop : o.op with
  | move x => rw [hop] at hc; cases hc; exact pure _ rfl h
  | assign x => rw [hop] at hc; cases hc; exact pure _ rfl h
  | pick x y z => rw [hop] at hc; cases hc; exact pureN _ rfl h
  | binOp op t x y ty =>
    have hc' := hc
    rw [hop] at hc'
    simp only [compOp] at hc'
    have dv : (op = .quo ∨ op = .rem) → d = .div op x y → o.wp P a w (Fin c own w a o.dst K) Q := by
      rintro ho rfl
      obtain ⟨⟨k, n, hk⟩, r, sv, h1, h2, h3⟩ := divN_sound (P := P) (w := w) (t := t) (K := fun sv => K sv own) ho (hf x) (hf y) h
      refine val (do eqGuard op t x y (a.eval x) (a.eval y); binOp op t (a.eval x) (a.eval y)) (by simp only [execOp, hop]) ⟨r, sv, ?_, h2, h3⟩
      rw [Sem.run_bind, eqGuard_scalar (.inl ⟨k, n, hk⟩)]
      exact h1
    split at hc'
    · split at hc'
      · cases hc'; exact pureN _ rfl h
      · cases hc'; exact pureN _ rfl h
      · cases hc'
    · split at hc'
      · cases hc'; exact dv (.inl rfl) rfl
      · cases hc'; exact dv (.inr rfl) rfl
      · cases hc'; exact pureN _ rfl h
    · cases hc'; exact pureN _ rfl h
    · cases hc'
  | unOp op t x => rw [hop] at hc; cases hc; exact pureN _ rfl h
  | convert s t x =>
    have hc' := hc
    rw [hop] at hc'
    simp only [compOp] at hc'
    split at hc'
    · cases hc'; exact pureN _ rfl h
    · cases hc'
  | fieldAddr t x f =>
    have hc' := hc
    rw [hop] at hc'
    simp only [compOp] at hc'
    split at hc'
    · simp only [Option.bind_eq_bind, Option.bind_eq_some_iff] at hc'
      obtain ⟨fd, _, s, _, hc'⟩ := hc'
      split at hc'
      · cases hc'
      · cases hc'; exact pureN _ rfl h
    · cases hc'
  | field t x f =>
    have hc' := hc
    rw [hop] at hc'
    simp only [compOp] at hc'
    split at hc'
    · simp only [Option.bind_eq_bind, Option.bind_eq_some_iff] at hc'
      obtain ⟨fd, _, s, _, d', _, hc'⟩ := hc'
      cases hc'; exact pureN _ rfl h
    · cases hc'
  | load t x =>
    have hc' := hc
    rw [hop] at hc'
    simp only [compOp, Option.bind_eq_bind, Option.bind_eq_some_iff] at hc'
    obtain ⟨s, hs, dd, hd, hc'⟩ := hc'
    cases hc'
    obtain ⟨v, sv, h1, h2, h3⟩ := loadN_sound (P := P) (K := fun sv => K sv own) hS hs hd (hf x) h
    exact val (Instr.loadAt t (a.eval x)) (by simp only [execOp, hop]) ⟨v, sv, h1, h2, h3⟩
  | store t x v =>
    have hc' := hc
    rw [hop] at hc'
    simp only [compOp, Option.bind_eq_bind, Option.bind_eq_some_iff] at hc'
    obtain ⟨s, hs, hc'⟩ := hc'
    cases hc'
    obtain ⟨c1, k1, k2, k3⟩ := frzS_ok hS (evn own env v)
    have hE1 := hE.mono k2
    obtain ⟨w1, own', h1, h2, h3, h4⟩ := storeN_sound (P := P) (K := fun own' => K (.tup []) own') k1 hs ((hf x).mono k2) (nrm_rel k1 (ev_rel hE1 v)) h
    refine fin_ons_wp k2 k3 (wp_skp (w' := w1) ?_ ?_)
    · simp only [execOp, hop, Sem.run_bind, h1, Result.andThen_ok, Sem.run_pure]
    · exact ⟨c1, .tup [], own', undef, rfl, .tup rfl (fun i s u hs => by simp at hs), h2, .refl c1, h3, h4⟩
  | alloc t =>
    have hc' := hc
    rw [hop] at hc'
    simp only [compOp, Option.bind_eq_bind, Option.bind_eq_some_iff] at hc'
    obtain ⟨z, hz, hc'⟩ := hc'
    cases hc'
    have := boxN_sound (a := a) (o := o) (K := K) hS (cval_rel c z) h
    refine valF (Instr.alloc t true (.tuple #[])) (by simp only [execOp, hop]) ⟨_, _, ?_, this⟩
    simp only [Instr.alloc, Sem.run_bind, run_zeroB hz, Result.andThen_ok, newVar, newRow, run_newObj, Sem.run_pure, World.alloc_eq]
  | box t x =>
    rw [hop] at hc
    cases hc
    have := boxN_sound (a := a) (o := o) (K := K) hS (hf x) h
    refine valF (Instr.box t (a.eval x)) (by simp only [execOp, hop]) ⟨_, _, ?_, this⟩
    simp only [Instr.box, Sem.run_bind, newVar, newRow, run_newObj, Sem.run_pure, Result.andThen_ok, World.alloc_eq]
  | build t ps =>
    have hc' := hc
    rw [hop] at hc'
    simp only [compOp] at hc'
    split at hc'
    · simp only [Option.bind_eq_bind, Option.bind_eq_some_iff] at hc'
      obtain ⟨z, _, l, _, hc'⟩ := hc'
      split at hc'
      · cases hc'; exact pureN _ rfl h
      · cases hc'
    · simp only [Option.bind_eq_bind, Option.bind_eq_some_iff] at hc'
      obtain ⟨z, _, s, _, hc'⟩ := hc'
      cases hc'; exact pureN _ rfl h
    · cases hc'
  | buildSlice t n ps =>
    have hc' := hc
    rw [hop] at hc'
    simp only [compOp] at hc'
    split at hc'
    · rename_i e ht
      simp only [Option.bind_eq_bind, Option.bind_eq_some_iff] at hc'
      obtain ⟨s, hs, z, hz, hc'⟩ := hc'
      split at hc'
      · cases hc'
      · rename_i h0
        cases hc'
        obtain ⟨c1, k1, k2, k3⟩ := frzL_ok (ps.toList.map fun p => evn own env p.2) hS
        obtain ⟨u, w1, h1, h2⟩ := bsliceN_sound (P := P) (o := o) (K := K) (n := n) (a := a) k1 ht hs hz h0 (f := evn own env) (ps := ps.toList) (fun x => (hf x).mono k2) h
        refine fin_ons_wp k2 k3 (wp_sem (s := Instr.buildSlice t n (ps.map fun p => (p.1, a.eval p.2))) (by simp only [execOp, hop]) ?_ h2)
        have : (List.map (fun p => (p.1, a.eval p.2)) ps.toList).toArray = ps.map fun p => (p.1, a.eval p.2) := by apply Array.toList_inj.1; simp
        rw [← this]; exact h1
    · cases hc'
  | indexAddr t x i =>
    have hc' := hc
    rw [hop] at hc'
    simp only [compOp] at hc'
    split at hc'
    · rename_i e ht
      simp only [Option.bind_eq_bind, Option.bind_eq_some_iff] at hc'
      obtain ⟨s, hs, hc'⟩ := hc'
      cases hc'
      obtain ⟨p, sv, h1, h2, h3⟩ := idxN_sound (P := P) (K := fun sv => K sv own) hS ht hs (hf x) (hf i) h
      exact val (Instr.indexAt t (a.eval x) (a.eval i)) (by simp only [execOp, hop]) ⟨p, sv, h1, h2, h3⟩
    · rename_i n e ht
      simp only [Option.bind_eq_bind, Option.bind_eq_some_iff] at hc'
      obtain ⟨s, hs, hc'⟩ := hc'
      cases hc'
      obtain ⟨p, sv, h1, h2, h3⟩ := idxPN_sound (P := P) (w := w) (K := fun sv => K sv own) ht hs (hf x) (hf i) h
      exact val (Instr.indexAt t (a.eval x) (a.eval i)) (by simp only [execOp, hop]) ⟨p, sv, h1, h2, h3⟩
    · cases hc'
  | slice t x lo hi mx =>
    cases mx with
    | some m => rw [hop] at hc; cases hc
    | none =>
      have hc' := hc
      rw [hop] at hc'
      simp only [compOp] at hc'
      split at hc'
      · rename_i e ht
        simp only [Option.bind_eq_bind, Option.bind_eq_some_iff] at hc'
        obtain ⟨s, hs, hc'⟩ := hc'
        cases hc'
        rcases h with h | h
        · obtain ⟨c1, k1, k2, k3⟩ := frzS_ok hS (evn own env x)
          obtain ⟨v, sv, h1, h2, h3⟩ := slcN_sound (P := P) (w := w) (c := c1) (K := fun sv => K sv (frzS own (evn own env x))) k1 ht hs (nrm_rel k1 (ev_rel (hE.mono k2) x)) (relO_map (fun x => (hf x).mono k2) lo) (relO_map (fun x => (hf x).mono k2) hi) h
          exact fin_ons_wp k2 k3 (wp_sem (s := Instr.sliceAt t (a.eval x) (lo.map a.eval) (hi.map a.eval) none) (by simp only [execOp, hop, Option.map_none]) h1 (fin_same k1 h2 h3))
        · obtain ⟨v, h1, h2⟩ := slcRN_sound (P := P) (w := w) (c := c) (o := o) (a := a) hS ht hs (hf x) (relO_map hf lo) (relO_map hf hi) h
          exact wp_sem (s := Instr.sliceAt t (a.eval x) (lo.map a.eval) (hi.map a.eval) none) (by simp only [execOp, hop, Option.map_none]) h1 h2
      · rename_i ht
        cases hc'
        obtain ⟨v, sv, h1, h2, h3⟩ := slcSN_sound (P := P) (w := w) (c := c) (K := fun sv => K sv own) ht (hf x) (relO_map hf lo) (relO_map hf hi) h
        exact val (Instr.sliceAt t (a.eval x) (lo.map a.eval) (hi.map a.eval) none) (by simp only [execOp, hop, Option.map_none]) ⟨v, sv, h1, h2, h3⟩
      · cases hc'
  | makeFunc fn fs cs => rw [hop] at hc; cases hc; exact pure _ rfl h
  | makeSlice t l k =>
    have hc' := hc
    rw [hop] at hc'
    simp only [compOp] at hc'
    split at hc'
    · rename_i e ht
      simp only [Option.bind_eq_bind, Option.bind_eq_some_iff] at hc'
      obtain ⟨i, hi, z, hz, hc'⟩ := hc'
      cases hc'
      exact valF (Instr.makeSlice t (a.eval l) (a.eval k)) (by simp only [execOp, hop]) (mksN_sound hS ht hi hz rfl (hf l) (hf k) h)
    · cases hc'
  | extract x i => rw [hop] at hc; cases hc; exact pureN _ rfl h
  | nilCheck x => rw [hop] at hc; cases hc; exact pureN _ rfl h
  | call cl =>
    obtain ⟨callee, args, argTypes⟩ := cl
    cases callee with
    | value fv =>
      have hargs : ∀ (f : FuncId) (first cap : List SV) (us vs : List Value), a.eval fv = .func (.func f) us.toArray vs.toArray → RelL c first us → RelL c cap vs →
          CallN P f own (first ++ args.toList.map (evn own env) ++ cap) K → o.wp P a w (Fin c own w a o.dst K) Q := by
        intro f first cap us vs hv h1 h2 h3
        refine callN_wp (us := us ++ args.toList.map a.eval ++ vs) hS ((h1.append (rels_map hf _)).append h2) ?_ h3
        have e : (us ++ args.toList.map a.eval ++ vs).toArray = us.toArray ++ args.map a.eval ++ vs.toArray := by apply Array.toList_inj.1; simp
        rw [e]
        simp only [execOp, hop, resolve, hv, Deferred.ofValue, Sem.run_bind, Sem.run_pure, Result.andThen_ok, invoke]
      have cv : d = .callv fv args.toList → o.wp P a w (Fin c own w a o.dst K) Q := by
        rintro rfl
        have hx := hf fv
        simp only [opN, CallVN] at h
        split at h
        · rename_i f first cap hev
          rw [hev] at hx
          obtain ⟨us, vs, hv, h1, h2⟩ := Rel.clo_iff.1 hx
          exact hargs f first cap us vs hv h1 h2 h
        · exact h.elim
      cases fv with
      | func f =>
        rw [hop] at hc; cases hc
        exact hargs f [] [] [] [] rfl .nil .nil (by simpa [opN] using h)
      | tmp t => rw [hop] at hc; cases hc; exact cv rfl
      | const v => rw [hop] at hc; cases hc; exact cv rfl
      | global g => rw [hop] at hc; cases hc; exact cv rfl
    | invoke r m => rw [hop] at hc; cases hc
    | builtin b =>
      have hc' := hc
      rw [hop] at hc'
      have res : (execOp a.eval o).run P w = (builtin b argTypes o.type (args.map fun | .const _ => true | _ => false) (args.map a.eval)).run P w := by
        simp only [execOp, hop]
        simp [resolve, invoke]
        rfl
      cases b <;> simp only [compOp] at hc' <;> try (cases hc'; done)
      case append =>
        split at hc'
        · rename_i t u x y ht hx
          split at hc'
          · rename_i e hu
            simp only [Option.bind_eq_bind, Option.bind_eq_some_iff] at hc'
            obtain ⟨i, hi, z, hz, hc'⟩ := hc'
            split at hc'
            · rename_i hcond
              obtain ⟨htu, hzs, hpos⟩ := hcond
              cases hc'
              subst htu
              obtain ⟨r, w1, h1, h2⟩ := appN_sound (P := P) (o := o) (a := a) (ty := o.type) hS hu hi hz hzs hpos (hf x) (hf y) h
              refine wp_val (u := r) ?_ h2
              have e1 : args = #[x, y] := by rw [← Array.toList_inj, hx]
              have e2 : argTypes = #[t, t] := by rw [← Array.toList_inj, ht]
              rw [res, e1, e2]
              simp only [builtin, List.map_toArray, List.map_cons, List.map_nil, Sem.run_bind, h1, Result.andThen_ok, Sem.run_pure]
            · cases hc'
          · cases hc'
        · cases hc'
      case clear =>
        split at hc'
        · rename_i t x ht hx
          split at hc'
          · rename_i e hu
            simp only [Option.bind_eq_bind, Option.bind_eq_some_iff] at hc'
            obtain ⟨z, hz, hc'⟩ := hc'
            cases hc'
            obtain ⟨w1, own', h1, h2, h3, h4⟩ := clrN_sound (P := P) (K := fun own' => K (.tup []) own') (ty' := o.type) hS hu hz (hf x) h
            have e1 : args = #[x] := by rw [← Array.toList_inj, hx]
            have e2 : argTypes = #[t] := by rw [← Array.toList_inj, ht]
            refine wp_val (u := .tuple #[]) (w' := w1) ?_ ⟨c, .tup [], own', .tuple #[], rfl, .tup rfl (fun i s u hs => by simp at hs), h2, .refl c, h3, h4⟩
            rw [res, e1, e2]
            simp only [builtin, List.map_toArray, List.map_cons, List.map_nil, Sem.run_bind, h1, Result.andThen_ok, Sem.run_pure]
          · cases hc'
        · cases hc'
      case len =>
        split at hc'
        · split at hc'
          · cases hc'; exact pureN _ rfl h
          · cases hc'; exact pureN _ rfl h
          · cases hc'
        · cases hc'
      case max =>
        split at hc'
        · cases hc'; exact pureN _ rfl h
        · cases hc'
      case min =>
        split at hc'
        · cases hc'; exact pureN _ rfl h
        · cases hc'
  | makeMap t r =>
    cases r with
    | some r => rw [hop] at hc; cases hc
    | none =>
      have hc' := hc
      rw [hop] at hc'
      simp only [compOp] at hc'
      split at hc'
      · simp only [Option.bind_eq_bind, Option.bind_eq_some_iff] at hc'
        obtain ⟨mk, hm, d', hd, hc'⟩ := hc'
        cases hc'
        obtain ⟨u, w1, h1, h2⟩ := mkmN_sound (P := P) (t := t) (a := a) (o := o) hS h
        exact valF (Instr.makeMap t none) (by simp only [execOp, hop]; rfl) ⟨u, w1, h1, h2⟩
      · cases hc'
  | mapUpdate t m k v =>
    have hc' := hc
    rw [hop] at hc'
    simp only [compOp] at hc'
    split at hc'
    · rename_i kt e ht
      simp only [Option.bind_eq_bind, Option.bind_eq_some_iff] at hc'
      obtain ⟨mk, hm, d', hd, hc'⟩ := hc'
      cases hc'
      obtain ⟨c1, k1, k2, k3⟩ := frzS_ok hS (evn own env v)
      have hE1 := hE.mono k2
      obtain ⟨w1, own', h1, h2, h3, h4⟩ := msetN_sound (P := P) (e := e) (K := fun own' => K (.tup []) own') k1 ht (mkOf_spec hm) ((hf m).mono k2) ((hf k).mono k2) (nrm_rel k1 (ev_rel hE1 v)) h
      refine fin_ons_wp k2 k3 (wp_skp (w' := w1) ?_ ?_)
      · simp only [execOp, hop, Sem.run_bind, h1, Result.andThen_ok, Sem.run_pure]
      · exact ⟨c1, .tup [], own', undef, rfl, .tup rfl (fun i s u hs => by simp at hs), h2, .refl c1, h3, h4⟩
    · cases hc'
  | lookup t m k ok =>
    have hc' := hc
    rw [hop] at hc'
    simp only [compOp] at hc'
    split at hc'
    · rename_i kt e ht
      simp only [Option.bind_eq_bind, Option.bind_eq_some_iff] at hc'
      obtain ⟨mk, hm, d', hd, z, hz, hc'⟩ := hc'
      cases hc'
      obtain ⟨u, sv, h1, h2, h3⟩ := mgetN_sound (P := P) (K := fun sv => K sv own) hS ht (mkOf_spec hm) hz (hf m) (hf k) h
      exact val (Instr.lookup t (a.eval m) (a.eval k) ok) (by simp only [execOp, hop]) ⟨u, sv, h1, h2, h3⟩
    · cases hc'
  | _ => rw [hop] at hc; cases hc

end

/-- The state behind a piece of code. -/
def Nx (n0 : Nat) (c : Cx) (own : List Res) (w : World) (K : List SV → List Res → Prop) : Act → World → Prop := fun a' w' =>
  a'.defers = [] ∧ ∃ c' env' own', EnvOk c' env' a' ∧ Sat c' own' w' ∧ (∀ r, r < n0 → c'.θ r = c.θ r) ∧ n0 ≤ c'.N ∧ Goes c own w c' own' w' ∧ K env' own'

section
variable {P : Program} {n0 : Nat}

theorem put_defers (a : Act) (d : Option Tmp) (v : Value) : (a.put d v).defers = a.defers := by cases d <;> rfl

theorem guard_sound {c : Cx} {ops : Array Oper} {o : Oper} {g : GOp} {env : List SV} {a : Act} {A B : List SV → Prop} (hc : compGOp P ops o = some g) (hE : EnvOk c env a) (h : GuardN g.guard env A B) :
    compOp P o.op = some g.op ∧ o.dst = g.dst ∧ ((Region.wanted o (yielded ops a.tmps) = true ∧ ∃ env', EnvOk c env' a ∧ A env') ∨ (Region.wanted o (yielded ops a.tmps) = false ∧ ∃ env', EnvOk c env' a ∧ B env')) := by
  unfold compGOp at hc
  split at hc
  · rename_i d h1 h2
    cases hc
    exact ⟨h1, rfl, .inl ⟨by simp [Region.wanted, h2], env, hE, h⟩⟩
  · rename_i d j want h1 h2
    split at hc
    · rename_i s hs
      cases hc
      refine ⟨h1, rfl, ?_⟩
      simp only [GuardN] at h
      -- the slot that the guard looks at
      have hy : yielded ops a.tmps j = match a.tmps[s]? with | some (.bool b) => some b | _ => none := by
        unfold yielded; rw [hs]; rfl
      have hset : ∀ (b : Bool), a.tmps[s]? = some (.bool b) → EnvOk c (seti env s (.d (.val (.bool b)))) a := fun b hb => by
        rw [seti_eq]
        refine ⟨by simp [hE.size], fun i t u hi hu => ?_⟩
        rw [List.getElem?_set] at hi
        split at hi
        · rename_i e; subst e
          split at hi
          · cases hi; rw [hb] at hu; cases hu; exact .d (.val _ rfl)
          · cases hi
        · exact hE.rel i t u hi hu
      split at h
      · rename_i b hg
        rw [geti_eq] at hg
        cases he : env[s]? with
        | none => simp [he] at hg
        | some sv =>
          simp [he] at hg; subst hg
          have hlt : s < a.tmps.size := by rw [hE.size]; exact (List.getElem?_eq_some_iff.1 he).1
          have hb : a.tmps[s]? = some (.bool b) := by
            have h3 : a.tmps[s]? = some a.tmps[s] := by simp [hlt]
            rw [h3, (hE.rel s _ _ he h3).of_val]
          rw [hb] at hy
          by_cases hbw : b = want
          · subst hbw
            exact .inl ⟨by simp [Region.wanted, h2, hy], _, hset _ hb, h.1 rfl⟩
          · have hbn : b = !want := by cases b <;> cases want <;> simp_all
            subst hbn
            exact .inr ⟨by simp [Region.wanted, h2, hy], _, hset _ hb, h.2 rfl⟩
      · rename_i hg
        rw [geti_eq] at hg
        cases he : env[s]? with
        | none => simp [he] at hg
        | some sv =>
          simp [he] at hg; subst hg
          have hlt : s < a.tmps.size := by rw [hE.size]; exact (List.getElem?_eq_some_iff.1 he).1
          have h3 : a.tmps[s]? = some a.tmps[s] := by simp [hlt]
          obtain ⟨us, hus, _⟩ := Rel.tup_iff.1 (hE.rel s _ _ he h3)
          rw [h3, hus] at hy
          exact .inr ⟨by simp [Region.wanted, h2, hy], env, hE, h⟩
      · exact h.elim
    · cases hc
  · cases hc

theorem run_sound (ops : Array Oper) {Q : Exit → Act → World → Prop} : ∀ (l : List Oper) (gs : List GOp) {c : Cx} {env : List SV} {own : List Res} {a : Act} {w : World} {K : List SV → List Res → Prop}, compOps P ops l = some gs → EnvOk c env a → Sat c own w → n0 ≤ c.N → a.defers = [] →
    run P gs env own K → (∀ a' w', Nx n0 c own w K a' w' → Q .normal a' w') → wpList P ops Q l a w := by
  intro l
  induction l with
  | nil =>
    intro gs c env own a w K hc hE hS hn hd h hQ
    simp [compOps] at hc; subst hc
    exact wpList_nil (hQ a w ⟨hd, c, env, own, hE, hS, fun _ _ => rfl, hn, .refl c own w, h⟩)
  | cons o l ih =>
    intro gs c env own a w K hc hE hS hn hd h hQ
    unfold compOps at hc
    split at hc
    · rename_i g r hg hr
      cases hc
      simp only [run] at h
      obtain ⟨h1, h2, h3⟩ := guard_sound hg hE h
      refine wpList_step fun K' hK' => ?_
      rcases h3 with ⟨hw, env', hE', hA⟩ | ⟨hw, env', hE', hB⟩
      · rw [if_pos hw]
        refine Oper.wp_mono (fun a' w' hfin => hK' a' w' ?_) (opN_sound h1 hE' hS hA)
        obtain ⟨c', sv, own', u, rfl, k1, k2, k3, k4, k5⟩ := hfin
        rw [h2]
        refine ih r hr ((hE'.mono k3).putE k1) k2 (Nat.le_trans hn k3.n) (by rw [put_defers]; exact hd) k5 fun a' w' hnx => hQ a' w' ?_
        obtain ⟨m1, c'', env'', own'', m2, m3, m4, m5, m6, m7⟩ := hnx
        exact ⟨m1, c'', env'', own'', m2, m3, fun r hr => (m4 r hr).trans (k3.t r (by omega)), m5, k4.trans m6, m7⟩
      · rw [if_neg (by rw [hw]; simp)]
        refine hK' _ _ ?_
        rw [h2]
        exact ih r hr (hE'.putE (.tup rfl (fun i s u hs => by simp at hs))) hS hn (by rw [put_defers]; exact hd) hB hQ
    · cases hc

end
end Go.SX
