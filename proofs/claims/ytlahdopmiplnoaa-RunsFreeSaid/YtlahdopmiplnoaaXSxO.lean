/-
  Functions; a state looked at as another one; a call's frame.
-/
import Derived.Test.YtlahdopmiplnoaaXSxN
namespace Go.SX
open Go

inductive DRes where
  | tmp (t : Nat)
  | cell (t sz : Nat) (agg : Bool)

def compR (P : Program) : List ResultVar → Option (List DRes)
  | [] => some []
  | .tmp t :: l => (match compR P l with | some r => some (.tmp t :: r) | none => none)
  | .cell t ty :: l => (match compR P l, sizeB P ty, P.underlying ty with | some r, some s, some d => some (.cell t s (isAggB d) :: r) | _, _, _ => none)

def resSV (own : List Res) (env : List SV) : DRes → Option SV
  | .tmp t => some (nrm own (geti env t))
  | .cell t sz agg => sload own sz agg (geti env t)

def resSVs (own : List Res) (env : List SV) : List DRes → Option (List SV)
  | [] => some []
  | r :: l => (match resSV own env r, resSVs own env l with | some s, some ss => some (s :: ss) | _, _ => none)

def ResN (own : List Res) (env : List SV) (rs : List DRes) (K : SV → Prop) : Prop :=
  match resSVs own env rs with
  | some [s] => K s
  | some ss => K (.tup ss)
  | none => False

/-- The end of a body. -/
def EndN (rs : List DRes) (K : SV → List Res → Prop) : DX → List SV → List Res → Prop
  | .normal, env, own => ResN own env rs (fun s => K s own)
  | .ret, env, own => ResN own env rs (fun s => K s own)
  | .exit _, _, _ => False

structure DFn where
  ntmps : Nat
  code : DC
  res : List DRes

def compF (P : Program) (f : FuncId) : Option DFn :=
  match P.funcs[f]? with
  | some fn =>
    if fn.name != "runtime.NumGoroutine" then
      match fn.body with
      | some code => (match compC P code, compR P fn.results.toList with | some c, some r => some ⟨fn.ntmps, c, r⟩ | _, _ => none)
      | none => none
    else none
  | none => none

def pad (n : Nat) (args : List SV) : List SV := args ++ List.replicate (n - args.length) (.tup [])

section
variable {P : Program}

def resOf (tmps : Array Value) : ResultVar → Sem Value
  | .tmp t => pure (tmps.getD t undef)
  | .cell x t => do loadVar t (← asAddr (tmps.getD x undef))

theorem results_eq (fn : Func) (tmps : Array Value) : results fn tmps = (do let vs ← fn.results.mapM (resOf tmps); pure (if h : vs.size = 1 then vs[0] else .tuple vs)) := by
  unfold results
  congr 1

theorem resSVs_sound {c : Cx} {own : List Res} {w : World} {env : List SV} {a : Act} (hE : EnvOk c env a) (hS : Sat c own w) : ∀ (l : List ResultVar) {rs : List DRes} {ss : List SV}, compR P l = some rs → resSVs own env rs = some ss →
    ∃ us, (l.mapM (resOf a.tmps) : Sem (List Value)).run P w = .ok us w ∧ RelL c ss us
  | [], rs, ss, hc, h => by
    simp [compR] at hc; subst hc
    simp [resSVs] at h; subst h
    exact ⟨[], by simp, .nil⟩
  | .tmp t :: l, rs, ss, hc, h => by
    simp only [compR] at hc
    split at hc
    · rename_i r hr
      cases hc
      simp only [resSVs] at h
      split at h
      · rename_i s ss' h1 h2
        cases h
        obtain ⟨us, k1, k2⟩ := resSVs_sound hE hS l hr h2
        refine ⟨a.tmps.getD t undef :: us, ?_, .cons ?_ k2⟩
        · rw [List.mapM_cons, resOf, Sem.run_bind, Sem.run_pure, Result.andThen_ok, Sem.run_bind, k1]; rfl
        · simp only [resSV] at h1; cases h1
          exact nrm_rel hS (ev_rel hE (.tmp t))
      · cases h
    · cases hc
  | .cell t ty :: l, rs, ss, hc, h => by
    simp only [compR] at hc
    split at hc
    · rename_i r sz d hr hs hd
      cases hc
      simp only [resSVs] at h
      split at h
      · rename_i s ss' h1 h2
        cases h
        obtain ⟨us, k1, k2⟩ := resSVs_sound hE hS l hr h2
        simp only [resSV] at h1
        obtain ⟨v, m1, m2⟩ := sload_sound (P := P) hS hs hd (ev_rel hE (.tmp t)) h1
        obtain ⟨lx, hsee, _⟩ := sload_takes h1
        obtain ⟨b, off, hp, _⟩ := sees_rel hS (ev_rel hE (.tmp t)) hsee
        have hp' : a.tmps.getD t undef = .pointer (some ⟨b, off, none⟩) := hp
        refine ⟨v :: us, ?_, .cons m2 k2⟩
        have m1' : (Instr.loadAt ty (a.tmps.getD t undef)).run P w = .ok v w := m1
        rw [hp'] at m1'
        simp only [Instr.loadAt, Instr.sureAddr, Sem.run_bind, Sem.run_pure, Result.andThen_ok] at m1'
        have m3 : (resOf a.tmps (.cell t ty)).run P w = .ok v w := by
          simp only [resOf, Sem.run_bind, hp', asAddr, Sem.run_pure, Result.andThen_ok, m1']
        rw [List.mapM_cons, Sem.run_bind, m3, Result.andThen_ok, Sem.run_bind, k1]; rfl
      · cases h
    · cases hc

theorem resN_sound {c : Cx} {own : List Res} {w : World} {env : List SV} {a : Act} {fn : Func} {rs : List DRes} {K : SV → Prop} (hE : EnvOk c env a) (hS : Sat c own w) (hc : compR P fn.results.toList = some rs) (h : ResN own env rs K) :
    ∃ v s, (results fn a.tmps).run P w = .ok v w ∧ Rel c s v ∧ K s := by
  unfold ResN at h
  have key : ∀ ss, resSVs own env rs = some ss → ∃ us : List Value, (results fn a.tmps).run P w = .ok (if h : us.length = 1 then us[0] else .tuple us.toArray) w ∧ RelL c ss us := fun ss hss => by
    obtain ⟨us, h1, h2⟩ := resSVs_sound hE hS _ hc hss
    refine ⟨us, ?_, h2⟩
    rw [results_eq, Array.mapM_eq_mapM_toList, Sem.run_bind, Sem.run_map, h1]
    simp only [Result.andThen_ok, Sem.run_pure, List.size_toArray, List.getElem_toArray]
  split at h
  · rename_i s hs
    obtain ⟨us, h1, h2⟩ := key _ hs
    obtain ⟨u, us', rfl, h3, h4⟩ := RelL.cons_iff.1 h2
    rw [RelL.nil_iff.1 h4] at h1
    exact ⟨u, s, by simpa using h1, h3, h⟩
  · rename_i ss hne hs
    obtain ⟨us, h1, h2⟩ := key _ hs
    have hl : us.length ≠ 1 := fun e => by
      rw [h2.1] at e
      obtain ⟨s, hs'⟩ := List.length_eq_one_iff.1 e
      exact hne s hs'
    rw [dif_neg hl] at h1
    exact ⟨_, .tup ss, h1, Rel.tup_iff.2 ⟨us, rfl, h2⟩, h⟩
  · exact h.elim

/-- A call of a function with a body: the body is walked. -/
theorem scall_body {f : FuncId} {df : DFn} {own : List Res} {args : List SV} {K : SV → List Res → Prop} (hf : compF P f = some df)
    (h : wpD P own.length df.code (pad df.ntmps args) own (EndN df.res K)) : SCall P f own args K := by
  unfold compF at hf
  split at hf
  · rename_i fn hfn
    split at hf
    · rename_i hname
      split at hf
      · rename_i code hb
        split at hf
        · rename_i dc rs hdc hrs
          cases hf
          refine ⟨by simpa [okFn, hfn, hb] using hname, fun c w us hS hr => ?_⟩
          refine calls_of_wp hfn hb ?_
          have hE : EnvOk c (pad fn.ntmps args) { tmps := us.toArray ++ Array.replicate (fn.ntmps - us.toArray.size) undef, defers := [] } := by
            have hpad : RelL c (pad fn.ntmps args) (us ++ List.replicate (fn.ntmps - us.length) undef) := by
              unfold pad
              rw [← hr.1]
              refine hr.append ⟨by simp, fun i s u h1 h2 => ?_⟩
              rw [List.getElem?_replicate] at h1 h2
              split at h1
              · rw [if_pos (by assumption)] at h2
                cases h1; cases h2
                exact .tup rfl (fun i s u hs => by simp at hs)
              · cases h1
            refine ⟨?_, fun i s u h1 h2 => hpad.2 i s u h1 ?_⟩
            · have := hpad.1; simp at this ⊢; exact this
            · rw [← h2, ← Array.getElem?_toList]; simp
          refine wpD_sound (P := P) (n0 := own.length) code dc hdc hE hS (by rw [hS.n]; exact Nat.le_refl _) rfl h fun e a' w' hnx => ?_
          obtain ⟨h1, c', env', own', h2, h3, h4, h5, h6, h7⟩ := hnx
          have hle : c.le c' := ⟨by rw [← hS.n]; exact h5, fun r hr => h4 r (by rw [hS.n]; exact hr), h6.f⟩
          have fin : ResN own' env' rs (fun s => K s own') → a'.defers = [] ∧ ∃ v, (results fn a'.tmps).run P w' = .ok v w' ∧ ∃ c' own' sv u, Ending.returned v = .returned u ∧ Rel c' sv u ∧ Sat c' own' w' ∧ c.le c' ∧ Goes c own w c' own' w' ∧ K sv own' := fun hres => by
            obtain ⟨v, s, k1, k2, k3⟩ := resN_sound h2 h3 hrs hres
            exact ⟨h1, v, k1, c', own', s, v, rfl, k2, h3, hle, h6, k3⟩
          cases e with
          | normal => exact fin h7
          | ret => exact fin h7
          | exit id => exact h7.elim
        · cases hf
      · cases hf
    · cases hf
  · cases hf

end

/- Renaming: a handle of the new list ↦ the handle of the old one. -/
mutual
def renSV (p : List Nat) : SV → Option SV
  | .d d => some (.d d)
  | .agg cs => (match renL p cs with | some l => some (.agg l) | none => none)
  | .tup cs => (match renL p cs with | some l => some (.tup l) | none => none)
  | .ptr r off => (match p[r]? with | some r' => some (.ptr r' off) | none => none)
  | .hd r => (match p[r]? with | some r' => some (.hd r') | none => none)
  | .fp ds => some (.fp ds)
  | .rp r sz i j => (match p[r]? with | some r' => some (.rp r' sz i j) | none => none)
  | .rs r sz i => (match p[r]? with | some r' => some (.rs r' sz i) | none => none)
  | .clo fn fs cs => (match renL p fs, renL p cs with | some l, some l' => some (.clo fn l l') | _, _ => none)
  | .top => some .top
def renL (p : List Nat) : List SV → Option (List SV)
  | [] => some []
  | s :: l => (match renSV p s, renL p l with | some a, some b => some (a :: b) | _, _ => none)
end

/-- The new value tells less than the old one. -/
def leS (own : List Res) (p : List Nat) (s' s : SV) : Prop := s' = .top ∨ renSV p s' = some s ∨ renSV p s' = some (nrm own s) ∨ (s = .d (.val (.slice none 0 0)) ∧ s' = .d (.sl []))

def leL (own : List Res) (p : List Nat) : List SV → List SV → Prop
  | [], [] => True
  | s' :: l', s :: l => leS own p s' s ∧ leL own p l' l
  | _, _ => False

def leR (own : List Res) (p : List Nat) (x' x : Res) : Prop :=
  match x', x with
  | .gone, _ => True
  | .fz es', .fz es => es' = es
  | .row ty' sz' es', .row ty sz es => ty' = ty ∧ sz' = sz ∧ es' = es
  | .cells cs' ty', .cells cs ty => ty' = ty ∧ leL own p cs' cs
  | .fzc ds', .fzc ds => ds' = ds
  | .mp mk' agg' es', .mp mk agg es => mk' = mk ∧ agg' = agg ∧ es' = es
  | _, _ => False

def leO (own : List Res) (p : List Nat) : List Nat → List Res → Prop
  | [], [] => True
  | r :: q, x' :: l' => leR own p x' (getr own r) ∧ leO own p q l'
  | _, _ => False

section
variable {c : Cx}

def Cx.ren (c : Cx) (p : List Nat) : Cx := { θ := fun r => match p[r]? with | some r' => c.θ r' | none => .bool false, F := c.F, N := p.length }

mutual
theorem ren_rel {p : List Nat} (hp : ∀ r ∈ p, r < c.N) : ∀ {s' s : SV} {u : Value}, renSV p s' = some s → Rel c s u → Rel (c.ren p) s' u
  | .d d, s, u, h, hr => by simp [renSV] at h; subst h; cases hr with | d h => exact .d h
  | .agg cs, s, u, h, hr => by
    simp only [renSV] at h
    split at h
    · rename_i l hl
      cases h
      obtain ⟨us, rfl, h2⟩ := Rel.agg_iff.1 hr
      exact Rel.agg_iff.2 ⟨us, rfl, renL_rel hp hl h2⟩
    · cases h
  | .tup cs, s, u, h, hr => by
    simp only [renSV] at h
    split at h
    · rename_i l hl
      cases h
      obtain ⟨us, rfl, h2⟩ := Rel.tup_iff.1 hr
      exact Rel.tup_iff.2 ⟨us, rfl, renL_rel hp hl h2⟩
    · cases h
  | .ptr r off, s, u, h, hr => by
    simp only [renSV] at h
    split at h
    · rename_i r' hr'
      cases h
      cases hr with | ptr h1 h2 => exact .ptr (by simp only [Cx.ren]; exact (List.getElem?_eq_some_iff.1 hr').1) (by simp only [Cx.ren, hr']; exact h2)
    · cases h
  | .hd r, s, u, h, hr => by
    simp only [renSV] at h
    split at h
    · rename_i r' hr'
      cases h
      cases hr with | hd h1 h2 => exact .hd (by simp only [Cx.ren]; exact (List.getElem?_eq_some_iff.1 hr').1) (by simp only [Cx.ren, hr']; exact h2)
    · cases h
  | .fp ds, s, u, h, hr => by simp [renSV] at h; subst h; cases hr with | fp h1 h2 => exact .fp h1 h2
  | .rp r sz i j, s, u, h, hr => by
    simp only [renSV] at h
    split at h
    · rename_i r' hr'
      cases h
      cases hr with | rp h1 h2 => exact .rp (by simp only [Cx.ren]; exact (List.getElem?_eq_some_iff.1 hr').1) (by simp only [Cx.ren, hr']; exact h2)
    · cases h
  | .clo fn fs cs, s, u, h, hr => by
    simp only [renSV] at h
    split at h
    · rename_i l l' hl hl'
      cases h
      obtain ⟨us, vs, rfl, h2, h3⟩ := Rel.clo_iff.1 hr
      exact Rel.clo_iff.2 ⟨us, vs, rfl, renL_rel hp hl h2, renL_rel hp hl' h3⟩
    · cases h
  | .rs r sz i, s, u, h, hr => by
    simp only [renSV] at h
    split at h
    · rename_i r' hr'
      cases h
      cases hr with | rs h1 h2 => exact .rs (by simp only [Cx.ren]; exact (List.getElem?_eq_some_iff.1 hr').1) (by simp only [Cx.ren, hr']; exact h2)
    · cases h
  | .top, s, u, h, hr => .top u
theorem renL_rel {p : List Nat} (hp : ∀ r ∈ p, r < c.N) : ∀ {l' l : List SV} {us : List Value}, renL p l' = some l → RelL c l us → RelL (c.ren p) l' us
  | [], l, us, h, hr => by simp [renL] at h; subst h; rw [RelL.nil_iff.1 hr]; exact .nil
  | s' :: l', l, us, h, hr => by
    simp only [renL] at h
    split at h
    · rename_i a b h1 h2
      cases h
      obtain ⟨u, us', rfl, k1, k2⟩ := RelL.cons_iff.1 hr
      exact .cons (ren_rel hp h1 k1) (renL_rel hp h2 k2)
    · cases h
end

theorem leS_rel {own : List Res} {w : World} {p : List Nat} (hS : Sat c own w) (hp : ∀ r ∈ p, r < c.N) {s' s : SV} {u : Value} (h : leS own p s' s) (hr : Rel c s u) : Rel (c.ren p) s' u := by
  rcases h with rfl | h | h | ⟨rfl, rfl⟩
  · exact .top u
  · exact ren_rel hp h hr
  · exact ren_rel hp h (nrm_rel hS hr)
  · rw [hr.of_val]; exact .d (.nil _ _ (fun _ => rfl))

theorem leL_len {own : List Res} {p : List Nat} : ∀ {l' l : List SV}, leL own p l' l → l'.length = l.length
  | [], [], _ => rfl
  | _ :: l', _ :: l, h => by simp [leL_len h.2]
  | [], _ :: _, h => h.elim
  | _ :: _, [], h => h.elim

theorem leL_get {own : List Res} {p : List Nat} : ∀ {l' l : List SV}, leL own p l' l → ∀ (i : Nat) s', l'[i]? = some s' → ∃ s, l[i]? = some s ∧ leS own p s' s
  | [], [], _, i, s', h => by simp at h
  | s0 :: l', t0 :: l, h, i, s', hi => by
    cases i with
    | zero => simp at hi; subst hi; exact ⟨t0, rfl, h.1⟩
    | succ i => simp at hi; obtain ⟨s, h1, h2⟩ := leL_get h.2 i s' hi; exact ⟨s, by simpa using h1, h2⟩
  | [], _ :: _, h, _, _, _ => h.elim
  | _ :: _, [], h, _, _, _ => h.elim

theorem leO_get {own : List Res} {p : List Nat} : ∀ {q : List Nat} {l' : List Res}, leO own p q l' → l'.length = q.length ∧ ∀ (i : Nat) x', l'[i]? = some x' → ∃ r, q[i]? = some r ∧ leR own p x' (getr own r)
  | [], [], _ => ⟨rfl, fun i x' h => by simp at h⟩
  | r :: q, x0 :: l', h => by
    obtain ⟨h1, h2⟩ := leO_get h.2
    refine ⟨by simp [h1], fun i x' hi => ?_⟩
    cases i with
    | zero => simp at hi; subst hi; exact ⟨r, rfl, h.1⟩
    | succ i => simp at hi; obtain ⟨r', k1, k2⟩ := h2 i x' hi; exact ⟨r', by simpa using k1, k2⟩
  | [], _ :: _, h => h.elim
  | _ :: _, [], h => h.elim

/-- A state looked at as a weaker one, its handles numbered anew. -/
theorem StLe.mk {n0 : Nat} {env env' : List SV} {own own' : List Res} (p : List Nat) (hnd : p.Nodup) (hlt : ∀ r ∈ p, r < own.length) (h0 : ∀ r, r < n0 → p[r]? = some r) (hE : leL own p env' env) (hO : leO own p p own') :
    StLe n0 env own env' own' := by
  intro c a w hn hEnv hS
  have hp : ∀ r ∈ p, r < c.N := fun r hr => by rw [← hS.n]; exact hlt r hr
  obtain ⟨hol, hog⟩ := leO_get hO
  -- a resource of the new list stands where one of the old list stands
  have hres : ∀ (i : Nat) x', own'[i]? = some x' → ∃ r x, p[i]? = some r ∧ own[r]? = some x ∧ (c.ren p).θ i = c.θ r ∧ leR own p x' x := fun i x' hi => by
    obtain ⟨r, h1, h2⟩ := hog i x' hi
    have hr : r < own.length := hlt r (List.mem_of_getElem? h1)
    exact ⟨r, own[r], h1, by simp [hr], by simp [Cx.ren, h1], by rw [getr_eq, List.getElem?_eq_getElem hr] at h2; exact h2⟩
  have hlive : ∀ x' x, leR own p x' x → x'.live = true → x.live = true := fun x' x h hl => by
    unfold leR at h
    split at h <;> first | (simp [Res.live] at hl; done) | rfl | exact h.elim
  have hinj : ∀ (i j : Nat) r, p[i]? = some r → p[j]? = some r → i = j := fun i j r h1 h2 => by
    have hi := (List.getElem?_eq_some_iff.1 h1).1
    exact (List.getElem?_inj hi hnd).1 (by rw [h1, h2])
  refine ⟨c.ren p, ⟨by rw [hEnv.size, leL_len hE], fun i s u hs hu => ?_⟩, ⟨by simp [Cx.ren, hol], ?_, ?_, ?_, hS.le, ?_⟩, fun r hr => by simp [Cx.ren, h0 r hr], ?_, ⟨rfl, rfl, rfl, Nat.le_refl _, fun _ _ _ => rfl, fun _ h => .inl h, ?_, fun _ _ h => h⟩⟩
  · obtain ⟨s0, h1, h2⟩ := leL_get hE i s hs
    exact leS_rel hS hp h2 (hEnv.rel i s0 u h1 hu)
  · intro i x' hi
    obtain ⟨r, x, h1, h2, h3, h4⟩ := hres i x' hi
    rw [h3]
    have hx := hS.res r x h2
    unfold leR at h4
    split at h4
    · trivial
    · subst h4; exact hx
    · obtain ⟨rfl, rfl, rfl⟩ := h4; exact hx
    · rename_i cs' ty' cs ty
      obtain ⟨rfl, h4⟩ := h4
      obtain ⟨b, us, k1, k2, k3, k4⟩ := hx
      refine ⟨b, us, k1, k2, by rw [k3, leL_len h4], fun j s hj => ?_⟩
      obtain ⟨s0, m1, m2⟩ := leL_get h4 j s hj
      obtain ⟨u, n1, n2, n3⟩ := k4 j s0 m1
      exact ⟨u, n1, n2, leS_rel hS hp m2 n3⟩
    · subst h4; exact ren_rel hp (s' := .fp _) rfl hx
    · obtain ⟨rfl, rfl, rfl⟩ := h4; exact hx
    · exact h4.elim
  · intro i j x y b hi hj hli hlj hbi hbj
    obtain ⟨r, x0, h1, h2, h3, h4⟩ := hres i x hi
    obtain ⟨s, y0, k1, k2, k3, k4⟩ := hres j y hj
    rw [h3] at hbi; rw [k3] at hbj
    have := hS.apart r s x0 y0 b h2 k2 (hlive _ _ h4 hli) (hlive _ _ k4 hlj) hbi hbj
    subst this
    exact hinj i j r h1 k1
  · intro i x b hi hl hb
    obtain ⟨r, x0, h1, h2, h3, h4⟩ := hres i x hi
    rw [h3] at hb
    exact hS.notF r x0 b h2 (hlive _ _ h4 hl) hb
  · intro r
    simp only [Cx.ren]
    split
    · exact hS.one _
    · rfl
  · rcases Nat.eq_zero_or_pos n0 with h | h
    · omega
    · have := (List.getElem?_eq_some_iff.1 (h0 (n0 - 1) (by omega))).1
      simp only [Cx.ren]; omega
  · rintro b ⟨i, x, hi, hl, hb⟩
    obtain ⟨r, x0, h1, h2, h3, h4⟩ := hres i x hi
    rw [h3] at hb
    exact .inl ⟨r, x0, h2, hlive _ _ h4 hl, hb⟩

theorem StLe.trans {n0 : Nat} {e1 e2 e3 : List SV} {o1 o2 o3 : List Res} (h : StLe n0 e1 o1 e2 o2) (k : StLe n0 e2 o2 e3 o3) : StLe n0 e1 o1 e3 o3 := by
  intro c a w hn hE hS
  obtain ⟨c1, h1, h2, h3, h4, h5⟩ := h c a w hn hE hS
  obtain ⟨c2, k1, k2, k3, k4, k5⟩ := k c1 a w h4 h1 h2
  exact ⟨c2, k1, k2, fun r hr => (k3 r hr).trans (h3 r hr), k4, h5.trans k5⟩

/-- A nil slice is an empty row. -/
theorem StLe.row {n0 : Nat} {env : List SV} {own : List Res} (i : Nat) (ty sz : Nat) (hi : geti env i = .d (.val (.slice none 0 0))) : StLe n0 env own (seti env i (.hd own.length)) (own ++ [.row ty sz []]) := by
  intro c a w hn hE hS
  obtain ⟨k1, k2, k3⟩ := hS.push (w' := w) none own rfl (fun s y hy => .inr ⟨hy, fun _ b hb => by cases hb⟩) (fun b hb => by cases hb) rfl rfl rfl (Nat.le_refl _) (fun _ _ _ => rfl) (.slice none 0 0) (.row ty sz []) rfl (fun b hb => by simp [blkOf] at hb)
    ⟨by simp, [], World.ownsRow_nil w 0 ty sz, by simp⟩
  refine ⟨c.push (.slice none 0 0), ⟨?_, fun j s u hs hu => ?_⟩, k1, fun r hr => k2.t r (by omega), Nat.le_trans hn k2.n, k3⟩
  · rw [seti_eq]; simp [hE.size]
  · rw [seti_eq, List.getElem?_set] at hs
    split at hs
    · rename_i e; subst e
      split at hs
      · rename_i hlt
        cases hs
        have he : env[i]? = some (.d (.val (.slice none 0 0))) := by
          rw [geti_eq, List.getElem?_eq_getElem hlt] at hi
          rw [List.getElem?_eq_getElem hlt]; simpa using hi
        have := (hE.rel i _ u he hu).of_val
        subst this
        exact .hd (by simp [Cx.push, hS.n]) (by simp [Cx.push, hS.n])
      · cases hs
    · exact (hE.rel j s u hs hu).mono k2

end
end Go.SX
