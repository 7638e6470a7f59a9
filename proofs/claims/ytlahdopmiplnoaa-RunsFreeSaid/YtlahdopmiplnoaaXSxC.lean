/-
  The pure operations: what the executor computes is what the model runs.
-/
import Derived.Test.YtlahdopmiplnoaaXSxB
namespace Go.SX
open Go

theorem add_none (b off j : Nat) : (⟨b, off, none⟩ : Addr).add j = ⟨b, off + j, none⟩ := by
  unfold Addr.add; split
  · subst_vars; rfl
  · rfl

theorem exists_list {α β : Type} {p : Nat → α → β → Prop} (l : List α) (h : ∀ (j : Nat) s, l[j]? = some s → ∃ u, p j s u) :
    ∃ us : List β, us.length = l.length ∧ ∀ (j : Nat) s u, l[j]? = some s → us[j]? = some u → p j s u := by
  induction l generalizing p with
  | nil => exact ⟨[], rfl, fun j s u hj => by simp at hj⟩
  | cons a l ih =>
    obtain ⟨u, hu⟩ := h 0 a rfl
    obtain ⟨us, hl, hus⟩ := ih (p := fun j => p (j + 1)) (fun j s hj => h (j + 1) s (by simpa using hj))
    refine ⟨u :: us, by simp [hl], fun j s v hs hv => ?_⟩
    cases j with
    | zero => simp at hs hv; subst hs; subst hv; exact hu
    | succ j => simp at hs hv; exact hus j s v hs hv

section
variable {P : Program} {c : Cx} {own : List Res} {env : List SV} {a : Act} {w : World}

theorem run_loadL {b off : Nat} (l : List SV) (h : ∀ (j : Nat) s, l[j]? = some s → ∃ u, w.cell? ⟨b, off + j, none⟩ = some u ∧ Rel c s u) :
    ∃ us, (loadCells ⟨b, off, none⟩ l.length).run P w = .ok us.toArray w ∧ RelL c l us := by
  obtain ⟨us, hl, hus⟩ := exists_list l h
  refine ⟨us, ?_, hl, fun j s u h1 h2 => (hus j s u h1 h2).2⟩
  have := run_loadCells_list (P := P) w ⟨b, off, none⟩ us (fun j v hv => by
    have hj : j < l.length := by rw [← hl]; exact (List.getElem?_eq_some_iff.1 hv).1
    rw [add_none]
    exact (hus j l[j] v (by simp [hj]) hv).1)
  rwa [hl] at this

/-- What lies behind a pointer that the executor can see through, cell by cell. -/
def sees (own : List Res) : SV → Option (List SV)
  | .ptr r k => (match getr own r with | .cells cs _ => some (cs.drop k) | _ => none)
  | .fp ds => some (ds.map .d)
  | _ => none

theorem sees_rel (hS : Sat c own w) {s : SV} {u : Value} {l : List SV} (hr : Rel c s u) (hl : sees own s = some l) :
    ∃ b off, u = .pointer (some ⟨b, off, none⟩) ∧ ∀ (j : Nat) s, l[j]? = some s → ∃ u, w.cell? ⟨b, off + j, none⟩ = some u ∧ Rel c s u := by
  cases hr with
  | @ptr r off b hr h =>
    simp only [sees, getr_eq] at hl
    cases hx : own[r]? with
    | none => simp [hx] at hl
    | some x =>
      simp only [hx, Option.getD_some] at hl
      cases x with
      | gone => simp at hl
      | fz => simp at hl
      | fzc => simp at hl
      | row => simp at hl
      | mp => simp at hl
      | cells cs ty =>
        simp at hl; subst hl
        obtain ⟨b', us, hv, hb, hs, hc⟩ := hS.res r _ hx
        rw [h] at hv; simp at hv; subst hv
        refine ⟨b, off, rfl, fun j s hj => ?_⟩
        rw [List.getElem?_drop] at hj
        obtain ⟨u, h1, _, h3⟩ := hc (off + j) s hj
        exact ⟨u, by rw [cell_of_row w b _ _ _ _ hb]; exact h1, h3⟩
  | @fp b off cs e fr ds hF h =>
    simp [sees] at hl; subst hl
    refine ⟨b, off, rfl, fun j s hj => ?_⟩
    simp at hj
    obtain ⟨d, hd, rfl⟩ := hj
    obtain ⟨u, h1, h2⟩ := h j d hd
    exact ⟨u, by rw [cell_of_row w b _ _ _ _ (hS.le b _ hF)]; exact h1, .d h2⟩
  | _ => simp [sees] at hl

theorem run_isAgg {t : TypeId} {d : TypeDesc} (h : P.underlying t = some d) : (isAgg t).run P w = .ok (isAggB d) w := by
  unfold isAgg
  rw [Sem.run_bind, run_underlying h w]
  cases d <;> rfl

theorem run_sizeOf {t s : Nat} (h : sizeB P t = some s) : (sizeOf t).run P w = .ok s w := by
  unfold sizeB at h
  cases hq : P.info? t with
  | none => simp [hq] at h
  | some i => simp [hq] at h; simp [sizeOf, typeInfo, hq, h]

/-- What a load takes out of what lies there. -/
def takes (s : Nat) (agg : Bool) (l : List SV) (sv : SV) : Prop := if agg then ∃ l', takeN s l = some l' ∧ sv = .agg l' else l[0]? = some sv

theorem takeN_map {α β : Type} (f : α → β) : ∀ (n : Nat) (l l' : List α), takeN n l = some l' → takeN n (l.map f) = some (l'.map f) := by
  intro n; induction n with
  | zero => intro l l' h; simp [takeN] at h ⊢; exact h
  | succ n ih =>
    intro l l' h
    cases l with
    | nil => simp [takeN] at h
    | cons a l =>
      simp only [takeN] at h
      cases hh : takeN n l with
      | none => simp [hh] at h
      | some r => simp [hh] at h; subst h; simp [takeN, ih _ _ hh]

theorem sload_takes {own : List Res} {s : Nat} {agg : Bool} {x sv : SV} (hl : sload own s agg x = some sv) : ∃ l, sees own x = some l ∧ takes s agg l sv := by
  unfold takes
  cases x with
  | ptr r k =>
    simp only [sload] at hl
    simp only [sees]
    split at hl
    · rename_i cs ty hg
      rw [hg]
      refine ⟨_, rfl, ?_⟩
      split
      · rename_i hb; simp only [hb, if_true] at hl
        cases ht : takeN s (cs.drop k) with
        | none => simp [ht] at hl
        | some l => simp [ht] at hl; exact ⟨l, rfl, hl.symm⟩
      · rename_i hb; simp only [hb] at hl; simpa using hl
    · simp at hl
  | fp ds =>
    simp only [sload] at hl
    refine ⟨_, rfl, ?_⟩
    split
    · rename_i hb; simp only [hb, if_true] at hl
      cases ht : takeN s ds with
      | none => simp [ht] at hl
      | some l =>
        simp [ht] at hl
        exact ⟨_, takeN_map _ _ _ _ ht, hl.symm⟩
    · rename_i hb; simp only [hb] at hl
      cases ds with
      | nil => simp at hl
      | cons d ds => simpa using hl
  | _ => simp [sload] at hl

theorem load_l {t s b off : Nat} {d : TypeDesc} (hs : sizeB P t = some s) (hd : P.underlying t = some d) {l : List SV} {sv : SV}
    (hc : ∀ (j : Nat) s, l[j]? = some s → ∃ u, w.cell? ⟨b, off + j, none⟩ = some u ∧ Rel c s u) (hk : takes s (isAggB d) l sv) :
    ∃ v, (Instr.loadAt t (.pointer (some ⟨b, off, none⟩))).run P w = .ok v w ∧ Rel c sv v := by
  unfold takes at hk
  simp only [Instr.loadAt, Instr.sureAddr, loadVar, Sem.run_bind, Sem.run_pure, Result.andThen_ok, run_isAgg hd]
  split at hk
  · rename_i hb
    obtain ⟨l', ht, rfl⟩ := hk
    obtain ⟨h1, h2⟩ := takeN_eq _ _ _ ht
    obtain ⟨us, hrun, hrel⟩ := run_loadL (P := P) (w := w) (b := b) (off := off) (c := c) l' (fun j s hj => by
      subst h1
      rw [List.getElem?_take] at hj
      split at hj
      · exact hc j s hj
      · simp at hj)
    rw [h2] at hrun
    refine ⟨.agg us.toArray, ?_, Rel.agg_iff.2 ⟨us, rfl, hrel⟩⟩
    simp only [hb, if_true, Sem.run_bind, run_sizeOf hs, Result.andThen_ok, hrun, Sem.run_pure]
  · rename_i hb
    obtain ⟨u, h1, h2⟩ := hc 0 sv hk
    refine ⟨u, ?_, h2⟩
    simp only [Nat.add_zero] at h1
    simp only [hb, Bool.false_eq_true, if_false, run_load, h1]

theorem sload_sound (hS : Sat c own w) {t s : Nat} {d : TypeDesc} (hs : sizeB P t = some s) (hd : P.underlying t = some d) {x : SV} {u : Value} {sv : SV} (hr : Rel c x u)
    (hl : sload own s (isAggB d) x = some sv) : ∃ v, (Instr.loadAt t u).run P w = .ok v w ∧ Rel c sv v := by
  obtain ⟨l, hsee, hk⟩ := sload_takes hl
  obtain ⟨b, off, rfl, hc⟩ := sees_rel hS hr hsee
  exact load_l hs hd hc hk

theorem sbin_sound {op : BinOp} {x y sv : SV} {u v : Value} {t : TypeId} (hx : Rel c x u) (hy : Rel c y v) (h : sbin op x y = some sv) :
    ∃ r, (binOp op t u v).run P w = .ok r w ∧ Rel c sv r := by
  unfold sbin at h
  split at h
  · rename_i k a' k' b'
    obtain rfl := hx.of_val
    obtain rfl := hy.of_val
    have fin : ∀ z, some (SV.d (.val z)) = some sv → z.oneCell' = true → Rel c sv z := fun z hz h1 => by cases hz; exact .d (.val _ h1)
    split at h
    · split at h
      · simp at h
      · rename_i hb
        exact ⟨_, by simp [binOp, Op.shift, hb], fin _ h rfl⟩
    · split at h
      · simp at h
      · rename_i hb
        exact ⟨_, by simp [binOp, Op.shift, hb], fin _ h rfl⟩
    · rename_i h1 h2
      split at h
      · simp at h
      · rename_i hk
        have hk : k = k' := by simpa using hk
        subst hk
        cases op <;> first
          | exact (h1 rfl).elim
          | exact (h2 rfl).elim
          | (simp at h; done)
          | (refine ⟨_, ?_, fin _ h rfl⟩; simp [binOp, Op.intArith, Op.intCmp, Op.intBits]; done)
          | (refine ⟨_, ?_, fin _ h rfl⟩; simp [binOp, Op.intCmp]; rfl)
  · rename_i a' b'
    obtain rfl := hx.of_val
    obtain rfl := hy.of_val
    have fin : ∀ z, some (SV.d (.val z)) = some sv → z.oneCell' = true → Rel c sv z := fun z hz h1 => by cases hz; exact .d (.val _ h1)
    cases op <;> first
      | (simp at h; done)
      | (refine ⟨_, ?_, fin _ h rfl⟩; simp [binOp, Op.stringOp]; done)
  · simp at h

theorem spick_sound {x y z sv : SV} {u v t : Value} (hx : Rel c x u) (hy : Rel c y v) (hz : Rel c z t) (h : spick x y z = some sv) :
    ∃ b, u = .bool b ∧ Rel c sv (if b then v else t) := by
  unfold spick at h
  split at h
  · rename_i b p q
    obtain rfl := hx.of_val
    obtain rfl := hy.of_val
    obtain rfl := hz.of_val
    cases h
    refine ⟨b, rfl, ?_⟩
    cases b <;> exact .d (.val _ rfl)
  · rename_i b _
    obtain rfl := hx.of_val
    cases h
    refine ⟨b, rfl, ?_⟩
    cases b
    · exact hz
    · exact hy
  · simp at h

theorem ptr_add {b off k : Nat} : (⟨b, off, none⟩ : Addr).add k = ⟨b, off + k, none⟩ := add_none b off k

theorem sfadd_sound {off : Nat} {x sv : SV} {u : Value} (hx : Rel c x u) (h : sfadd off x = some sv) :
    ∃ b k, u = .pointer (some ⟨b, k, none⟩) ∧ Rel c sv (.pointer (some ⟨b, k + off, none⟩)) := by
  cases hx with
  | @ptr r k b hr ht => simp [sfadd] at h; subst h; exact ⟨b, k, rfl, .ptr hr ht⟩
  | @fp b k cs e fr ds hF hh =>
    simp [sfadd] at h; subst h
    refine ⟨b, k, rfl, .fp hF fun j d hj => ?_⟩
    rw [List.getElem?_drop] at hj
    obtain ⟨u, h1, h2⟩ := hh (off + j) d hj
    exact ⟨u, by rw [Nat.add_assoc]; exact h1, h2⟩
  | @rp r sz i j b n cap hr ht => simp [sfadd] at h; subst h; exact ⟨b, i * sz + j, rfl, by rw [Nat.add_assoc]; exact .rp hr ht⟩
  | _ => simp [sfadd] at h

theorem sfld_sound {t s off : Nat} {d : TypeDesc} (hs : sizeB P t = some s) (hd : P.underlying t = some d) {x sv : SV} {u : Value} (hr : Rel c x u)
    (h : sfld off s (isAggB d) x = some sv) : ∃ us v, u = .agg us ∧ (part t us off).run P w = .ok v w ∧ Rel c sv v := by
  cases hr with
  | @agg cs us hl hh =>
    simp only [sfld] at h
    suffices hx : ∃ v, (part t us off).run P w = .ok v w ∧ Rel c sv v from let ⟨v, h1, h2⟩ := hx; ⟨us, v, rfl, h1, h2⟩
    unfold part
    simp only [Sem.run_bind, run_isAgg hd, Result.andThen_ok]
    split at h
    · rename_i hb
      cases h
      simp only [hb, if_true, Sem.run_bind, run_sizeOf hs, Result.andThen_ok, Sem.run_pure]
      refine ⟨_, rfl, .agg ?_ fun i s' u' hi hu => ?_⟩
      · simp; omega
      · rw [List.getElem?_take] at hi
        split at hi
        · rename_i hlt
          rw [List.getElem?_drop] at hi
          rw [Array.getElem?_extract] at hu
          split at hu
          · exact hh _ _ _ hi hu
          · simp at hu
        · simp at hi
    · rename_i hb
      have hlt : off < cs.length := (List.getElem?_eq_some_iff.1 h).1
      have hu : us[off]? = some us[off] := by simp [hl, hlt]
      refine ⟨us[off]'(by omega), ?_, hh off sv _ h hu⟩
      simp [hb, hu]
  | _ => simp [sfld] at h

theorem slen_sound (hS : Sat c own w) {x sv : SV} {u : Value} {t ty : TypeId} {str : Bool} (ht : if str then P.underlying t = some .string else ∃ e, P.underlying t = some (.slice e)) (hr : Rel c x u)
    (h : slen own str x = some sv) : ∃ v, (Builtin.len_ #[t] ty #[u]).run P w = .ok v w ∧ Rel c sv v := by
  unfold slen at h
  split at h
  · rename_i es
    cases str
    · simp at h ht
      obtain ⟨e, ht⟩ := ht
      subst h
      cases hr with | d hr =>
      cases hr with
      | nil a k _ => exact ⟨_, by simp [Builtin.len_, run_underlying ht]; rfl, .d (.val _ rfl)⟩
      | sl => exact ⟨_, by simp [Builtin.len_, run_underlying ht]; rfl, .d (.val _ rfl)⟩
    · simp at h
  · rename_i n _
    obtain rfl := hr.of_val
    cases str
    · simp at h ht
      obtain ⟨e, ht⟩ := ht
      subst h
      exact ⟨_, by simp [Builtin.len_, run_underlying ht]; rfl, .d (.val _ rfl)⟩
    · simp at h
  · obtain rfl := hr.of_val
    cases str
    · simp at h
    · simp at h ht
      subst h
      exact ⟨_, by simp [Builtin.len_, run_underlying ht]; rfl, .d (.val _ rfl)⟩
  · rename_i r
    cases str
    · simp only [Bool.false_eq_true, if_false] at h ht
      obtain ⟨e, ht⟩ := ht
      cases hr with | hd hr hv =>
      rw [getr_eq] at h
      cases hx : own[r]? with
      | none => simp [hx] at h
      | some y =>
        simp only [hx, Option.getD_some] at h
        have hres := hS.res r y hx
        split at h
        · rename_i ty' sz es
          cases h
          obtain ⟨_, us, ⟨_, hw⟩, _⟩ := hres
          rcases hw with ⟨hw, hn⟩ | ⟨g, cap, cur, hw, _⟩
          · rw [← hv, hw]; exact ⟨_, by simp [Builtin.len_, run_underlying ht]; rfl, by rw [hn]; exact .d (.val _ rfl)⟩
          · rw [← hv, hw]; exact ⟨_, by simp [Builtin.len_, run_underlying ht]; rfl, .d (.val _ rfl)⟩
        · simp at h
    · simp at h
  · rename_i r s0 i
    cases str
    · simp only [Bool.false_eq_true, if_false] at h ht
      obtain ⟨e, ht⟩ := ht
      cases hr with | rs hr hv =>
      obtain ⟨ad, nn, cap', hu, hin, rfl⟩ := hv
      rw [getr_eq] at h
      cases hx : own[r]? with
      | none => simp [hx] at h
      | some y =>
        simp only [hx, Option.getD_some] at h
        have hres := hS.res r y hx
        split at h
        · rename_i ty' sz es
          cases h
          obtain ⟨_, us, ⟨_, hw⟩, _⟩ := hres
          have hnn : nn = es.length := by
            rcases hw with ⟨hw, hn⟩ | ⟨g, cap, cur, hw, _⟩
            · rw [hw] at hu; cases hu; exact hn.symm
            · rw [hw] at hu; cases hu; rfl
          rw [hnn]
          exact ⟨_, by simp [Builtin.len_, run_underlying ht]; rfl, .d (.val _ rfl)⟩
        · simp at h
    · simp at h
  · simp at h

theorem sext_sound {i : Nat} {x sv : SV} {u : Value} (hr : Rel c x u) (h : sext i x = some sv) : ∃ v, (Instr.extract u i).run P w = .ok v w ∧ Rel c sv v := by
  cases hr with
  | @tup cs us hl hh =>
    simp only [sext] at h
    have hlt : i < cs.length := (List.getElem?_eq_some_iff.1 h).1
    have hu : us[i]? = some us[i] := by simp [hl, hlt]
    exact ⟨us[i]'(by omega), by simp [Instr.extract, hu], hh i sv _ h hu⟩
  | _ => simp [sext] at h

theorem sun_sound {op : UnOp} {x sv : SV} {u : Value} (hr : Rel c x u) (h : sun op x = some sv) : ∃ v, (Op.unary op u).run P w = .ok v w ∧ Rel c sv v := by
  unfold sun at h
  split at h
  · obtain rfl := hr.of_val
    cases op <;> simp at h
    subst h
    exact ⟨_, by simp [Op.unary], .d (.val _ rfl)⟩
  · obtain rfl := hr.of_val
    cases op <;> simp at h
    subst h
    exact ⟨_, by simp [Op.unary, Op.intArith], .d (.val _ rfl)⟩
  · simp at h

theorem smm_sound (mx : Bool) (l : List SV) : ∀ {x sv : SV} {u : Value} {us : List Value}, Rel c x u → RelL c l us → smm mx x l = some sv →
    ∃ v, (us.foldlM (if mx then Builtin.max2 else Builtin.min2) u).run P w = .ok v w ∧ Rel c sv v := by
  induction l with
  | nil =>
    intro x sv u us hx hl h
    rw [RelL.nil_iff.1 hl]
    simp only [smm] at h
    split at h
    · cases h; exact ⟨u, by simp, hx⟩
    · simp at h
  | cons y l ih =>
    intro x sv u us hx hl h
    obtain ⟨v, us', rfl, hy, hl'⟩ := RelL.cons_iff.1 hl
    unfold smm at h
    split at h
    · simp at *
    · rename_i k a' k' b' l' heq
      simp at heq
      obtain ⟨rfl, rfl⟩ := heq
      obtain rfl := hx.of_val
      obtain rfl := hy.of_val
      obtain ⟨r, h1, h2⟩ := ih (x := .d (.val (.int k (if mx then max a' b' else min a' b')))) (u := .int k (if mx then max a' b' else min a' b')) (.d (.val _ rfl)) hl' h
      refine ⟨r, ?_, h2⟩
      rw [List.foldlM_cons, Sem.run_bind]
      cases mx
      · have : (Builtin.min2 (.int k a') (.int k' b')).run P w = .ok (.int k (min a' b')) w := by
          simp only [Builtin.min2, Sem.run_pure]; congr 2; split <;> omega
        simp only [Bool.false_eq_true, if_false] at h1 ⊢
        rw [this]; exact h1
      · have : (Builtin.max2 (.int k a') (.int k' b')).run P w = .ok (.int k (max a' b')) w := by
          simp only [Builtin.max2, Sem.run_pure]; congr 2; split <;> omega
        simp only [if_true] at h1 ⊢
        rw [this]; exact h1
    · simp at h

theorem scvi_sound {k : IntKind} {src dst : TypeId} {ks : IntKind} {x sv : SV} {u : Value} (hs : P.underlying src = some (.int ks)) (hd : P.underlying dst = some (.int k)) (hr : Rel c x u)
    (h : scvi k x = some sv) : ∃ v, (convert src dst u).run P w = .ok v w ∧ Rel c sv v := by
  unfold scvi at h
  split at h
  · obtain rfl := hr.of_val
    cases h
    exact ⟨_, by simp [convert, run_underlying hs, run_underlying hd, Conv.intToInt], .d (.val _ rfl)⟩
  · simp at h

theorem sbeq_sound {n : Bool} {t : TypeId} {x y sv : SV} {u v : Value} (ht : P.underlying t = some .bool) (hx : Rel c x u) (hy : Rel c y v) (h : sbeq n x y = some sv) :
    ∃ r, (binOp (if n then .neq else .eql) t u v).run P w = .ok r w ∧ Rel c sv r := by
  unfold sbeq at h
  split at h
  · obtain rfl := hx.of_val
    obtain rfl := hy.of_val
    cases h
    have key : ∀ a b : Bool, (Op.equal t (.bool a) (.bool b)).run P w = .ok (a == b) w := fun a b => by
      unfold Op.equal
      rw [show Op.maxDepth = 9999 + 1 from rfl, Op.equalIn]
      simp only [Sem.run_bind, run_underlying ht, Result.andThen_ok, Sem.run_pure]
    cases n
    · refine ⟨_, ?_, .d (.val _ rfl)⟩
      simp only [binOp, Bool.false_eq_true, if_false, Sem.run_bind, key, Result.andThen_ok, Sem.run_pure, Bool.false_xor]
    · refine ⟨_, ?_, .d (.val _ rfl)⟩
      simp only [binOp, if_true, Sem.run_bind, key, Result.andThen_ok, Sem.run_pure, Bool.true_xor]
  · simp at h

theorem snil_sound {x sv : SV} {u : Value} (hr : Rel c x u) (h : snil x = some sv) :
    Rel c sv u ∧ ((∃ a, u = .pointer (some a)) ∨ ∃ f as bs, u = .func (.func f) as bs) := by
  cases hr with
  | ptr hr ht => simp [snil] at h; subst h; exact ⟨.ptr hr ht, .inl ⟨_, rfl⟩⟩
  | fp hF hh => simp [snil] at h; subst h; exact ⟨.fp hF hh, .inl ⟨_, rfl⟩⟩
  | rp hr ht => simp [snil] at h; subst h; exact ⟨.rp hr ht, .inl ⟨_, rfl⟩⟩
  | @clo fn fs cs us vs hl hh hl' hh' =>
    cases fn <;> simp [snil] at h
    subst h
    exact ⟨.clo hl hh hl' hh', .inr ⟨_, _, _, rfl⟩⟩
  | _ => simp [snil] at h

theorem one_cells {u : Value} (h : u.oneCell' = true) : u.cells = #[u] := by cases u <;> first | rfl | simp [Value.oneCell'] at h

theorem cells_rel (hθ : ∀ r, (c.θ r).oneCell' = true) {s : SV} {u : Value} (hr : Rel c s u) (hs : s.flat = true) : RelL c s.cells u.cells.toList := by
  by_cases h1 : s.one = true
  · rw [one_cells (hr.one hθ h1)]
    have : s.cells = [s] := by cases s <;> first | rfl | simp [SV.one] at h1
    rw [this]
    exact .cons hr .nil
  · cases s with
    | agg cs =>
      obtain ⟨us, rfl, h⟩ := Rel.agg_iff.1 hr
      exact h
    | _ => simp [SV.one, SV.flat] at h1 hs

theorem zip_fold (l : List Value) : ∀ (k off : Nat) (cs : Array Value), off + k + l.length ≤ cs.size →
    ((l.zipIdx k).foldl (fun cs x => cs.setIfInBounds (off + x.2) x.1) cs).toList = cs.toList.take (off + k) ++ l ++ cs.toList.drop (off + k + l.length) := by
  induction l with
  | nil => intro k off cs h; simp
  | cons v l ih =>
    intro k off cs h
    simp only [List.length_cons] at h
    rw [List.zipIdx_cons, List.foldl_cons, ih (k + 1) off _ (by simp; omega)]
    simp only [Array.toList_setIfInBounds]
    have e1 : off + (k + 1) = off + k + 1 := by omega
    rw [e1, List.take_add_one, List.take_set_of_le (by omega), List.getElem?_set_self (by simp; omega), List.drop_set_of_lt (by omega)]
    have e2 : off + k + 1 + l.length = off + k + (l.length + 1) := by omega
    simp only [Option.toList_some, List.append_assoc, List.length_cons, List.cons_append, List.nil_append, e2]

theorem RelL.take {ss : List SV} {us : List Value} (h : RelL c ss us) (n : Nat) : RelL c (ss.take n) (us.take n) :=
  ⟨by simp [h.1], fun i s u h1 h2 => by
    rw [List.getElem?_take] at h1 h2
    split at h1
    · rw [if_pos (by assumption)] at h2; exact h.2 i s u h1 h2
    · simp at h1⟩
theorem RelL.drop {ss : List SV} {us : List Value} (h : RelL c ss us) (n : Nat) : RelL c (ss.drop n) (us.drop n) :=
  ⟨by simp [h.1], fun i s u h1 h2 => by rw [List.getElem?_drop] at h1 h2; exact h.2 _ s u h1 h2⟩
theorem RelL.splice {ss vs : List SV} {us ws : List Value} (h : RelL c ss us) (hv : RelL c vs ws) (off : Nat) : RelL c (Go.SX.splice off vs ss) (Go.SX.splice off ws us) := by
  unfold Go.SX.splice
  rw [hv.1]
  exact ((h.take _).append hv).append (h.drop _)

theorem fill_sound (hθ : ∀ r, (c.θ r).oneCell' = true) (place : Nat → Option (Nat × Nat)) (ps : List ((Nat × Nat) × SV)) : ∀ (vs : List (Nat × Value)) (cells cells' : List SV) (us : Array Value),
    vs.length = ps.length → (∀ (i : Nat) p v, ps[i]? = some p → vs[i]? = some v → place v.1 = some p.1 ∧ Rel c p.2 v.2) → RelL c cells us.toList → sfill cells ps = some cells' →
    ∃ us', Instr.fill place us vs = some us' ∧ RelL c cells' us'.toList := by
  induction ps with
  | nil =>
    intro vs cells cells' us hl _ hc h
    simp at hl; subst hl
    simp [sfill] at h; subst h
    exact ⟨us, rfl, hc⟩
  | cons p ps ih =>
    intro vs cells cells' us hl hp hc h
    obtain ⟨⟨off, sz⟩, s⟩ := p
    cases vs with
    | nil => simp at hl
    | cons v vs =>
      obtain ⟨i, v⟩ := v
      obtain ⟨hpl, hrel⟩ := hp 0 _ _ rfl rfl
      simp only [sfill] at h
      split at h
      · rename_i hcond
        obtain ⟨hflat, hlen, hle⟩ := hcond
        have hcr := cells_rel hθ hrel hflat
        have hsz : v.cells.size = sz := by have := hcr.1; simp at this hlen; omega
        have hus : us.size = cells.length := by have := hc.1; simpa using this
        have hfold := zip_fold v.cells.toList 0 off us (by simp; omega)
        obtain ⟨us', h1, h2⟩ := ih vs _ cells' (v.cells.zipIdx.foldl (fun cs x => cs.setIfInBounds (off + x.2) x.1) us) (by simpa using hl) (fun i p v h1 h2 => hp (i + 1) p v (by simpa using h1) (by simpa using h2)) (by
          rw [← Array.foldl_toList, Array.toList_zipIdx, hfold]
          exact hc.splice hcr off) h
        refine ⟨us', ?_, h2⟩
        simp only [Instr.fill, hpl]
        rw [if_neg (by simp; omega)]
        exact h1
      · simp at h

end
end Go.SX
