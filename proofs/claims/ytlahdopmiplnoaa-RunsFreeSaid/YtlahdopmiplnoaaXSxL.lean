/-
  Regions whose order is drawn: operations that own nothing new; whatever order is picked, the frame at the end is one.
-/
import Derived.Test.YtlahdopmiplnoaaXSxK
namespace Go.SX
open Go

/-- A functional operation: its one result, in whatever state. -/
def fnN (P : Program) (d : DOp) (env : List SV) (own : List Res) (R : SV → Prop) : Prop :=
  match d with
  | .mv x => R (evn own env x)
  | .pick c a b => PureN (spick (evn own env c) (evn own env a) (evn own env b)) R
  | .bin op x y => PureN (sbin op (evn own env x) (evn own env y)) R
  | .beq n x y => PureN (sbeq n (evn own env x) (evn own env y)) R
  | .un op x => PureN (sun op (evn own env x)) R
  | .cvi k x => PureN (scvi k (evn own env x)) R
  | .fadd off x => PureN (sfadd off (evn own env x)) R
  | .fld off sz agg x => PureN (sfld off sz agg (evn own env x)) R
  | .len s x => PureN (slen own s (evn own env x)) R
  | .ext x i => PureN (sext i (evn own env x)) R
  | .mkfn fn fs cs => R (.clo fn (fs.map (evn own env)) (cs.map (evn own env)))
  | .mm mx x xs => PureN (smm mx (evn own env x) (xs.map (evn own env))) R
  | .nilck x => PureN (snil (evn own env x)) R
  | .build z ps => PureN (sbuild (cval z) (ps.map fun p => (p.1, evn own env p.2))) R
  | .load sz agg x => LoadN own sz agg (evn own env x) R
  | .div op x y => DivN op (evn own env x) (evn own env y) R
  | .idxA sz x i => IdxN own sz (evn own env x) (evn own env i) R
  | .idxP n sz x i => IdxPN n sz (evn own env x) (evn own env i) R
  | .slc sz x lo hi => SlcN sz (evn own env x) (lo.map (evn own env)) (hi.map (evn own env)) R
  | .slcS x lo hi => SlcSN (evn own env x) (lo.map (evn own env)) (hi.map (evn own env)) R
  | .call f args => ∃ sv, SCall P f own (args.map (evn own env)) (fun sv' own' => sv' = sv ∧ own' = own) ∧ R sv
  | .callv x args => (match evn own env x with
    | .clo (.func f) first cap => ∃ sv, SCall P f own (first ++ args.map (evn own env) ++ cap) (fun sv' own' => sv' = sv ∧ own' = own) ∧ R sv
    | _ => False)
  | .bslice _ sz n _ ps => (match bsl own sz 0 (ps.map fun p => (p.1, evn own env p.2)) with
    | some es => es.length = n ∧ n * sz ≤ 16777216 ∧ R (.d (.sl es))
    | none => False)
  | .mget mk agg ok z x k => MgetN own mk agg ok (cval z) (evn own env x) (evn own env k) R
  | _ => False

def runF (P : Program) : List GOp → List SV → List Res → (List SV → Prop) → Prop
  | [], env, _, K => K env
  | g :: l, env, own, K =>
    GuardN g.guard env (fun env => fnN P g.op env own (fun sv => runF P l (putE env g.dst sv) own K)) (fun env => runF P l (putE env g.dst (.tup [])) own K)

/-- What an operation looks at. -/
def DOp.ops : DOp → List Operand
  | .clr _ _ x | .mv x | .un _ x | .cvi _ x | .fadd _ x | .fld _ _ _ x | .load _ _ x | .box _ x | .len _ x | .ext x _ | .nilck x => [x]
  | .pick c a b => [c, a, b]
  | .bin _ x y | .div _ x y | .beq _ x y | .store _ x y | .idxA _ x y | .idxP _ _ x y | .app _ _ _ _ x y | .mks _ _ _ _ x y => [x, y]
  | .alloc .. | .mkm .. => []
  | .mset _ _ x k v => [x, k, v]
  | .mget _ _ _ _ x k => [x, k]
  | .build _ ps => ps.map (·.2)
  | .bslice _ _ _ _ ps => ps.map (·.2)
  | .slc _ x lo hi | .slcS x lo hi => x :: (lo.toList ++ hi.toList)
  | .call _ args => args
  | .callv x args => x :: args
  | .mkfn _ fs cs => fs ++ cs
  | .mm _ x xs => x :: xs

def tmpsOf (l : List Operand) : List Nat := l.filterMap fun | .tmp t => some t | _ => none

def GOp.looks (g : GOp) : List Nat := tmpsOf g.op.ops ++ (match g.guard with | some (s, _) => [s] | none => [])

section
variable {P : Program} {own : List Res}

theorem map_agree {env env' : List SV} {l : List Operand} (h : ∀ x ∈ l, evn own env x = evn own env' x) : l.map (evn own env) = l.map (evn own env') := List.map_congr_left h

theorem fnN_agree {d : DOp} {env env' : List SV} {R : SV → Prop} (h : ∀ x ∈ d.ops, evn own env x = evn own env' x) : fnN P d env own R ↔ fnN P d env' own R := by
  have ho : ∀ (x : Option Operand), (∀ y ∈ x.toList, evn own env y = evn own env' y) → x.map (evn own env) = x.map (evn own env') := fun x hx => by
    cases x with
    | none => rfl
    | some y => simp [hx y (by simp)]
  cases d <;> simp only [DOp.ops, List.mem_cons, List.mem_append, List.not_mem_nil, or_false, List.mem_map, Prod.exists] at h <;> simp only [fnN]
  case mv x => rw [h x rfl]
  case un op x => rw [h x rfl]
  case cvi op x => rw [h x rfl]
  case fadd op x => rw [h x rfl]
  case fld a b c x => rw [h x rfl]
  case load a b x => rw [h x rfl]
  case len a x => rw [h x rfl]
  case ext x i => rw [h x rfl]
  case nilck x => rw [h x rfl]
  case pick a b c => rw [h a (.inl rfl), h b (.inr (.inl rfl)), h c (.inr (.inr rfl))]
  case bin a b c => rw [h b (.inl rfl), h c (.inr rfl)]
  case div a b c => rw [h b (.inl rfl), h c (.inr rfl)]
  case beq a b c => rw [h b (.inl rfl), h c (.inr rfl)]
  case idxA a b c => rw [h b (.inl rfl), h c (.inr rfl)]
  case idxP a b c d => rw [h c (.inl rfl), h d (.inr rfl)]
  case build z ps => rw [List.map_congr_left (l := ps) (f := fun p : (Nat × Nat) × Operand => (p.1, evn own env p.2)) (g := fun p => (p.1, evn own env' p.2)) fun p hp => by rw [h p.2 ⟨p.1.1, p.1.2, p.2, hp, rfl⟩]]
  case bslice a b c z ps => rw [List.map_congr_left (l := ps) (f := fun p : Nat × Operand => (p.1, evn own env p.2)) (g := fun p => (p.1, evn own env' p.2)) fun p hp => by rw [h p.2 ⟨p.1, p.2, hp, rfl⟩]]
  case slc a x lo hi => rw [h x (.inl rfl), ho lo fun y hy => h y (.inr (.inl hy)), ho hi fun y hy => h y (.inr (.inr hy))]
  case slcS x lo hi => rw [h x (.inl rfl), ho lo fun y hy => h y (.inr (.inl hy)), ho hi fun y hy => h y (.inr (.inr hy))]
  case call f args => rw [map_agree h]
  case callv x args => rw [h x (.inl rfl), map_agree fun y hy => h y (.inr hy)]
  case mkfn fn fs cs => rw [map_agree fun y hy => h y (.inl hy), map_agree fun y hy => h y (.inr hy)]
  case mm m x xs => rw [h x (.inl rfl), map_agree fun y hy => h y (.inr hy)]
  case mget mk agg ok z x k => rw [h x (.inl rfl), h k (.inr rfl)]

theorem pureN_one {x : Option SV} {R : SV → Prop} (h : PureN x R) : ∃ sv, PureN x (· = sv) ∧ R sv := by
  obtain ⟨sv, rfl, h2⟩ := pureN_iff.1 h; exact ⟨sv, rfl, h2⟩

theorem fnN_one {d : DOp} {env : List SV} {R : SV → Prop} (h : fnN P d env own R) : ∃ sv, fnN P d env own (· = sv) ∧ R sv := by
  cases d <;> simp only [fnN] at h ⊢
  case mv x => exact ⟨_, rfl, h⟩
  case mkfn fn fs cs => exact ⟨_, rfl, h⟩
  case mget mk agg ok z x k =>
    unfold MgetN at h ⊢
    split at h
    · split at h
      · split at h
        · rename_i mk' agg' es _
          obtain ⟨h1, h2, h3, h4, h5⟩ := h
          cases hm : mget es _ with
          | none => exact ⟨mres ok (cval z) false, ⟨h1, h2, h3, (fun ds hds => by cases hds), fun _ => rfl⟩, h5 hm⟩
          | some ds => exact ⟨mres ok (dsv agg ds) true, ⟨h1, h2, h3, (fun ds' hds => by cases hds; rfl), fun hno => by cases hno⟩, h4 ds hm⟩
        · exact h.elim
      · exact ⟨_, ⟨h.1, rfl⟩, h.2⟩
      · exact h.elim
    · exact h.elim
  case call f args => obtain ⟨sv, h1, h2⟩ := h; exact ⟨sv, ⟨sv, h1, rfl⟩, h2⟩
  case callv x args =>
    split at h
    · obtain ⟨sv, h1, h2⟩ := h; exact ⟨sv, ⟨sv, h1, rfl⟩, h2⟩
    · exact h.elim
  case bslice a sz n z ps =>
    split at h
    · obtain ⟨h1, h2, h3⟩ := h; exact ⟨_, ⟨h1, h2, rfl⟩, h3⟩
    · exact h.elim
  case load a b x =>
    unfold LoadN at h ⊢
    split at h
    · split at h
      · rename_i es _
        obtain ⟨h1, h2, h3⟩ := h
        obtain ⟨sv, k1, k2⟩ := pureN_one (h3 _ (List.getElem?_eq_getElem h2))
        refine ⟨sv, ⟨h1, h2, fun ds hds => ?_⟩, k2⟩
        rw [List.getElem?_eq_getElem h2] at hds; cases hds; exact k1
      · exact h.elim
    · exact pureN_one h
  case div op x y =>
    unfold DivN at h ⊢
    split at h
    · exact ⟨_, ⟨h.1, h.2.1, rfl⟩, h.2.2⟩
    · exact h.elim
  case idxA a x i =>
    unfold IdxN at h ⊢
    split at h
    · rename_i es _ n _ _
      obtain ⟨h1, h2, h3⟩ := h
      have hlt : n.toNat < es.length := by omega
      obtain ⟨k1, k2⟩ := h3 _ (List.getElem?_eq_getElem hlt)
      exact ⟨_, ⟨h1, h2, fun ds hds => by rw [List.getElem?_eq_getElem hlt] at hds; cases hds; exact ⟨k1, rfl⟩⟩, k2⟩
    · split at h
      · exact ⟨_, ⟨h.1, h.2.1, h.2.2.1, rfl⟩, h.2.2.2⟩
      · exact h.elim
    · split at h
      · exact ⟨_, ⟨h.1, h.2.1, h.2.2.1, h.2.2.2.1, rfl⟩, h.2.2.2.2⟩
      · exact h.elim
    · exact h.elim
  case idxP a b x i =>
    unfold IdxPN at h ⊢
    split at h
    · exact ⟨_, ⟨h.1, h.2.1, rfl⟩, h.2.2⟩
    · exact ⟨_, ⟨h.1, h.2.1, rfl⟩, h.2.2⟩
    · exact h.elim
  case slc a x lo hi =>
    unfold SlcN at h ⊢
    split at h
    · split at h
      · exact ⟨_, ⟨h.1, h.2.1, h.2.2.1, h.2.2.2.1, rfl⟩, h.2.2.2.2⟩
      · exact h.elim
    · exact h.elim
  case slcS x lo hi =>
    unfold SlcSN at h ⊢
    split at h
    · split at h
      · exact ⟨_, ⟨h.1, h.2.1, h.2.2.1, rfl⟩, h.2.2.2⟩
      · exact h.elim
    · exact h.elim
  all_goals first
    | exact pureN_one h
    | exact h.elim

/-- A slice literal, frozen at once. -/
theorem bslice_fz {c : Cx} {w : World} {a : Act} {o : Oper} (hS : Sat c own w) {t e sz n : Nat} {ps : List (Nat × Operand)} {f : Operand → SV} (ht : P.underlying t = some (.slice e)) (hs : sizeB P e = some sz) {z : Value} (hz : zeroB P e = some z) (h0 : sz ≠ 0)
    (hf : ∀ x, Rel c (f x) (a.eval x)) {es : List (List D)} (hb : bsl own sz 0 (ps.map fun p => (p.1, f p.2)) = some es) (hlen : es.length = n) (hle : n * sz ≤ 16777216) :
    ∃ u w', (Instr.buildSlice t n (ps.map fun p => (p.1, a.eval p.2)).toArray).run P w = .ok u w' ∧ Fin c own w a o.dst (fun sv' own' => sv' = .d (.sl es) ∧ own' = own) (a.put o.dst u) w' := by
  obtain ⟨cells', hrun, h2, h5, h6⟩ := bslice_run hS ht hs hz h0 hf hb hlen hle
  have hnF : c.F w.heap.size = none := by
    cases hc : c.F w.heap.size with
    | none => rfl
    | some x => have := hS.F_lt hc; omega
  have hle' := Cx.frz_le (o := .cells cells' e) hnF
  have hF : ∀ b x, (c.frz w.heap.size (.cells cells' e)).F b = some x → (w.alloc (.cells cells' e)).heap[b]? = some x := fun b x hb => by
    simp only [Cx.frz] at hb
    split at hb
    · rename_i e; subst e; cases hb; exact heap_alloc_new w _
    · rw [RowKit.Below.heap_alloc w _ b (hS.F_lt hb)]; exact hS.le b x hb
  have hnew : ∀ b, (c.frz w.heap.size (.cells cells' e)).F b ≠ none → c.F b ≠ none ∨ w.heap.size ≤ b := fun b hb => by
    simp only [Cx.frz] at hb
    split at hb
    · rename_i e; exact .inr (by omega)
    · exact .inl hb
  have hS' : Sat (c.frz w.heap.size (.cells cells' e)) own (w.alloc (.cells cells' e)) :=
    hS.on hle' rfl hS.one (fun b hb => RowKit.Below.heap_alloc w _ b hb) hF hnew
  refine ⟨_, _, hrun, c.frz w.heap.size (.cells cells' e), .d (.sl es), own, _, rfl, .d ?_, hS', hle', ⟨rfl, rfl, rfl, by simp, fun b hb _ => RowKit.Below.heap_alloc w _ b hb, fun b hb => (hnew b hb).elim .inl (fun h => .inr (.inl h)), ?_, hle'.f⟩, rfl, rfl⟩
  · rw [← hlen]
    exact row_rep (c := c.frz w.heap.size (.cells cells' e)) (ty := e) (cur := cells') (us := cells'.toList) h5 (by simp [Cx.frz]) (Nat.le_refl _) (by rw [hlen, ← h2, ← Array.length_toList, List.take_length])
      (fun j d hj => by obtain ⟨u, hu, hr⟩ := h6 j d hj; exact ⟨u, by simpa using hu, hr.mono hle'.f⟩)
  · rintro b ⟨r, x, hx, hl, hb⟩
    exact .inl ⟨r, x, hx, hl, hb⟩

theorem fn_wp {c : Cx} {w : World} {a : Act} {o : Oper} {env : List SV} {d : DOp} {sv : SV} {Q : Exit → Act → World → Prop} (hc : compOp P o.op = some d) (hE : EnvOk c env a) (hS : Sat c own w) (h : fnN P d env own (· = sv)) :
    o.wp P a w (Fin c own w a o.dst (fun sv' own' => sv' = sv ∧ own' = own)) Q := by
  have via : opN P d env own (fun sv' own' => sv' = sv ∧ own' = own) → o.wp P a w (Fin c own w a o.dst (fun sv' own' => sv' = sv ∧ own' = own)) Q := opN_sound hc hE hS
  have pn : ∀ x, PureN x (· = sv) → PureN x (fun sv' => sv' = sv ∧ own = own) := fun x hx => by
    obtain ⟨s, h1, h2⟩ := pureN_iff.1 hx; subst h1; exact ⟨h2, rfl⟩
  have pnT : ∀ x, PureN x (· = sv) → PureN x (fun sv' => sv' = sv ∧ True) := fun x hx => by
    obtain ⟨s, h1, h2⟩ := pureN_iff.1 hx; subst h1; exact ⟨h2, trivial⟩
  cases d <;> simp only [fnN] at h
  case mv x => exact via ⟨h, rfl⟩
  case mkfn fn fs cs => exact via ⟨h, rfl⟩
  case mget mk agg ok z x k =>
    refine via ?_
    simp only [opN]
    unfold MgetN at h ⊢
    split at h
    · split at h
      · split at h
        · exact ⟨h.1, h.2.1, h.2.2.1, fun ds hds => ⟨h.2.2.2.1 ds hds, trivial⟩, fun hno => ⟨h.2.2.2.2 hno, trivial⟩⟩
        · exact h.elim
      · exact ⟨h.1, h.2, trivial⟩
      · exact h.elim
    · exact h.elim
  case call f args =>
    obtain ⟨s, h1, rfl⟩ := h
    exact via (.own h1)
  case callv x args =>
    split at h
    · rename_i f first cap he
      obtain ⟨s, h1, rfl⟩ := h
      refine via ?_
      simp only [opN, CallVN, he]
      exact .own h1
    · exact h.elim
  case bslice ty sz n z ps =>
    split at h
    · rename_i es hb
      obtain ⟨h1, h2, rfl⟩ := h
      have hf : ∀ x, Rel c (evn own env x) (a.eval x) := fun x => nrm_rel hS (ev_rel hE x)
      cases hop : o.op with
      | buildSlice t m qs =>
        rw [hop] at hc
        simp only [compOp] at hc
        split at hc
        · rename_i e ht
          simp only [Option.bind_eq_bind, Option.bind_eq_some_iff] at hc
          obtain ⟨s, hs, z', hz, hc⟩ := hc
          split at hc
          · cases hc
          · rename_i h0
            cases hc
            obtain ⟨u, w1, k1, k2⟩ := bslice_fz (P := P) (o := o) (a := a) hS ht hs hz h0 hf hb h1 h2
            refine wp_sem (s := Instr.buildSlice t n (qs.map fun p => (p.1, a.eval p.2))) (by simp only [execOp, hop]) ?_ k2
            have : (List.map (fun p => (p.1, a.eval p.2)) qs.toList).toArray = qs.map fun p => (p.1, a.eval p.2) := by apply Array.toList_inj.1; simp
            rw [← this]; exact k1
        · cases hc
      | _ =>
        rw [hop] at hc
        exfalso
        revert hc
        clear via pn pnT hb h1 h2 hf
        simp only [compOp]
        intro hc
        (repeat' split at hc) <;> simp [Option.bind_eq_some_iff] at hc <;> simp_all
    · exact h.elim
  case load a b x =>
    refine via ?_
    simp only [opN]
    unfold LoadN at h ⊢
    split at h
    · split at h
      · exact ⟨h.1, h.2.1, fun ds hds => pnT _ (h.2.2 ds hds)⟩
      · exact h.elim
    · exact pnT _ h
  case div op x y =>
    refine via ?_
    simp only [opN]
    unfold DivN at h ⊢
    split at h
    · exact ⟨h.1, h.2.1, h.2.2, trivial⟩
    · exact h.elim
  case idxA a x i =>
    refine via ?_
    simp only [opN]
    unfold IdxN at h ⊢
    split at h
    · exact ⟨h.1, h.2.1, fun ds hds => ⟨(h.2.2 ds hds).1, (h.2.2 ds hds).2, trivial⟩⟩
    · split at h
      · exact ⟨h.1, h.2.1, h.2.2.1, h.2.2.2, trivial⟩
      · exact h.elim
    · split at h
      · exact ⟨h.1, h.2.1, h.2.2.1, h.2.2.2.1, h.2.2.2.2, trivial⟩
      · exact h.elim
    · exact h.elim
  case idxP a b x i =>
    refine via ?_
    simp only [opN]
    unfold IdxPN at h ⊢
    split at h
    · exact ⟨h.1, h.2.1, h.2.2, trivial⟩
    · exact ⟨h.1, h.2.1, h.2.2, trivial⟩
    · exact h.elim
  case slc b x lo hi =>
    refine via ?_
    simp only [opN]
    have hx : ∃ es, evn own env x = .d (.sl es) := by
      unfold SlcN at h
      split at h
      · rename_i es he; exact ⟨es, he⟩
      · exact h.elim
    obtain ⟨es, hx⟩ := hx
    have e1 : frzS own (evn own env x) = own := by rw [hx]; rfl
    rw [e1]
    refine .inl ?_
    unfold SlcN at h ⊢
    split at h
    · split at h
      · exact ⟨h.1, h.2.1, h.2.2.1, h.2.2.2.1, h.2.2.2.2, rfl⟩
      · exact h.elim
    · exact h.elim
  case slcS x lo hi =>
    refine via ?_
    simp only [opN]
    unfold SlcSN at h ⊢
    split at h
    · split at h
      · exact ⟨h.1, h.2.1, h.2.2.1, h.2.2.2, trivial⟩
      · exact h.elim
    · exact h.elim
  all_goals first
    | exact via (pn _ h)
    | exact h.elim

end
end Go.SX
