/-
  Contracts: what a call leaves behind may be cut down, and holds whatever the caller owns besides.
-/
import Derived.Test.YtlahdopmiplnoaaXSxO
namespace Go.SX
open Go
def FCallN (P : Program) (f : FuncId) (own : List Res) (args : List SV) (R : SV → Prop) : Prop := ∃ sv, SCall P f own args (fun sv' own' => sv' = sv ∧ own' = own) ∧ R sv
def FCallVN (P : Program) (x : SV) (own : List Res) (args : List SV) (R : SV → Prop) : Prop :=
  match x with
  | .clo (.func f) first cap => FCallN P f own (first ++ args ++ cap) R
  | _ => False
theorem fnN_call (P : Program) (env : List SV) (own : List Res) (R : SV → Prop) (f : FuncId) (args : List Operand) : fnN P (.call f args) env own R = FCallN P f own (args.map (evn own env)) R := rfl
theorem fnN_callv (P : Program) (env : List SV) (own : List Res) (R : SV → Prop) (x : Operand) (args : List Operand) : fnN P (.callv x args) env own R = FCallVN P (evn own env x) own (args.map (evn own env)) R := rfl
theorem FCallVN_clo (P : Program) (f : FuncId) (first cap : List SV) (own : List Res) (args : List SV) (K : SV → Prop) : FCallVN P (.clo (.func f) first cap) own args K = FCallN P f own (first ++ args ++ cap) K := rfl
theorem ArgLe.map {own1 : List Res} {args : List SV} (g : SV → SV) (hg : ∀ (c : Cx) (w : World) s u, Sat c own1 w → Rel c s u → Rel c (g s) u) : ArgLe own1 args (args.map g) := fun c w us hS hr => ⟨by rw [hr.1, List.length_map], fun i s u hs hu => by
  rw [List.getElem?_map, Option.map_eq_some_iff] at hs
  obtain ⟨s0, hs0, rfl⟩ := hs
  exact hg c w s0 u hS (hr.2 i s0 u hs0 hu)⟩
theorem ArgLe.nrm (own1 : List Res) (args : List SV) : ArgLe own1 args (args.map (nrm own1)) := .map _ fun _ _ _ _ hS h => nrm_rel hS h
theorem CallN.frz {P : Program} {f : FuncId} {own : List Res} {args : List SV} {K : SV → List Res → Prop} (h : SCall P f (frzL own args) (args.map (nrm (frzL own args))) K) : CallN P f own args K := ⟨_, _, fun _ _ hS => frzL_ok args hS, .nrm _ _, h⟩
theorem FCallN.mk {P : Program} {f : FuncId} {own : List Res} {args : List SV} {R : SV → Prop} {sv : SV} (h : SCall P f own args (fun sv' own' => sv' = sv ∧ own' = own)) (hR : R sv) : FCallN P f own args R := ⟨sv, h, hR⟩
theorem CallN.fn {P : Program} {f : FuncId} {own : List Res} {args : List SV} {K : SV → List Res → Prop} {sv : SV} (h : SCall P f own args (fun sv' own' => sv' = sv ∧ own' = own)) (hK : K sv own) : CallN P f own args K :=
  .own (h.mono fun sv' own' ⟨h1, h2⟩ => by subst h1; subst h2; exact hK)

@[reducible] def SV.i (n : Int) : SV := .d (.val (.int .i64 n))
@[reducible] def SV.b (b : Bool) : SV := .d (.val (.bool b))

mutual
def SV.closed : SV → Bool
  | .d _ | .fp _ | .top => true
  | .agg cs => closedL cs
  | .tup cs => closedL cs
  | .clo _ fs cs => closedL fs && closedL cs
  | .ptr .. | .hd _ | .rp .. | .rs .. => false
def closedL : List SV → Bool
  | [] => true
  | s :: l => SV.closed s && closedL l
end

mutual
theorem closed_rel {c c' : Cx} (hF : ∀ b o, c.F b = some o → c'.F b = some o) : ∀ {s : SV} {u : Value}, s.closed = true → Rel c s u → Rel c' s u
  | .d d, u, _, h => by cases h with | d h => exact .d (h.mono hF)
  | .fp ds, u, _, h => by cases h with | fp h1 h2 => exact .fp (hF _ _ h1) (fun j d hj => let ⟨u, k1, k2⟩ := h2 j d hj; ⟨u, k1, k2.mono hF⟩)
  | .top, u, _, h => .top u
  | .agg cs, u, hc, h => by
    obtain ⟨us, rfl, h2⟩ := Rel.agg_iff.1 h
    exact Rel.agg_iff.2 ⟨us, rfl, closedL_rel hF hc h2⟩
  | .tup cs, u, hc, h => by
    obtain ⟨us, rfl, h2⟩ := Rel.tup_iff.1 h
    exact Rel.tup_iff.2 ⟨us, rfl, closedL_rel hF hc h2⟩
  | .clo fn fs cs, u, hc, h => by
    obtain ⟨us, vs, rfl, h2, h3⟩ := Rel.clo_iff.1 h
    simp only [SV.closed, Bool.and_eq_true] at hc
    exact Rel.clo_iff.2 ⟨us, vs, rfl, closedL_rel hF hc.1 h2, closedL_rel hF hc.2 h3⟩
  | .ptr r off, u, hc, h => by simp [SV.closed] at hc
  | .hd r, u, hc, h => by simp [SV.closed] at hc
  | .rp r sz i j, u, hc, h => by simp [SV.closed] at hc
  | .rs r sz i, u, hc, h => by simp [SV.closed] at hc
theorem closedL_rel {c c' : Cx} (hF : ∀ b o, c.F b = some o → c'.F b = some o) : ∀ {l : List SV} {us : List Value}, closedL l = true → RelL c l us → RelL c' l us
  | [], us, _, h => by rw [RelL.nil_iff.1 h]; exact .nil
  | s :: l, us, hc, h => by
    obtain ⟨u, us', rfl, h1, h2⟩ := RelL.cons_iff.1 h
    simp only [closedL, Bool.and_eq_true] at hc
    exact .cons (closed_rel hF hc.1 h1) (closedL_rel hF hc.2 h2)
end

section
variable {P : Program} {f : FuncId}

theorem Sat.empty {c : Cx} {own : List Res} {w : World} (h : Sat c own w) : Sat { c with N := 0 } [] w :=
  ⟨rfl, fun r x hx => by simp at hx, fun r s x y b hx => by simp at hx, fun r x b hx => by simp at hx, h.le, h.one⟩

/-- A function with one result that owns nothing: its contract holds whatever the caller owns. -/
theorem SCall.fn {own : List Res} {args : List SV} {s : SV} (h : SCall P f [] args (fun sv _ => sv = s)) (ha : closedL args = true) (hs : s.closed = true) :
    SCall P f own args (fun sv own' => sv = s ∧ own' = own) := by
  refine ⟨h.1, fun c w us hS hr => ?_⟩
  refine (h.2 { c with N := 0 } w us hS.empty (closedL_rel (c := c) (c' := { c with N := 0 }) (fun _ _ h => h) ha hr)).mono ?_
  rintro e w' ⟨c', own', sv, u, rfl, h2, h3, h4, h5, rfl⟩
  have hno : ∀ b, ¬ Own { c with N := 0 } [] b := fun b ⟨r, x, hx, _⟩ => by simp at hx
  have hkeep : ∀ b, b < w.heap.size → w'.heap[b]? = w.heap[b]? := fun b hb => h5.keep b hb (hno b)
  have hnew : ∀ b, c'.F b ≠ none → c.F b ≠ none ∨ w.heap.size ≤ b := fun b hb => by
    rcases h5.newF b hb with h | h | h
    · exact .inl h
    · exact .inr h
    · exact (hno b h).elim
  have hle : c.le { θ := c.θ, F := c'.F, N := c.N } := ⟨Nat.le_refl _, fun _ _ => rfl, h5.f⟩
  refine ⟨{ θ := c.θ, F := c'.F, N := c.N }, own, sv, u, rfl, closed_rel (c := c') (c' := { θ := c.θ, F := c'.F, N := c.N }) (fun _ _ h => h) hs h2, hS.on hle rfl hS.one hkeep h3.le hnew, hle,
    ⟨h5.os, h5.tape, h5.output, h5.size, fun b hb _ => hkeep b hb, fun b hb => (hnew b hb).elim .inl (fun h => .inr (.inl h)), fun b hb => .inl hb, h5.f⟩, rfl, rfl⟩

/-- What a call leaves behind, cut down. -/
theorem SCall.weak {own : List Res} {args : List SV} {K K' : SV → List Res → Prop} (h : SCall P f own args K)
    (hw : ∀ sv own', K sv own' → ∃ (p : List Nat) (sv' : SV) (own'' : List Res), p.Nodup ∧ (∀ r ∈ p, r < own'.length) ∧ (∀ r, r < own.length → p[r]? = some r) ∧ leS own' p sv' sv ∧ leO own' p p own'' ∧ K' sv' own'') :
    SCall P f own args K' := by
  refine ⟨h.1, fun c w us hS hr => ?_⟩
  refine (h.2 c w us hS hr).mono ?_
  rintro e w' ⟨c', own', sv, u, rfl, h2, h3, h4, h5, h6⟩
  obtain ⟨p, sv', own'', k1, k2, k3, k4, k5, k6⟩ := hw sv own' h6
  have hle := StLe.mk (n0 := own.length) (env := [sv]) (env' := [sv']) p k1 k2 k3 ⟨k4, trivial⟩ k5
  obtain ⟨c2, m1, m2, m3, m4, m5⟩ := hle c' { tmps := #[u], defers := [] } w' (by rw [hS.n]; exact h4.n) ⟨rfl, fun i s u' hi hu => by
    cases i with
    | zero => simp at hi hu; subst hi; subst hu; exact h2
    | succ i => simp at hi⟩ h3
  exact ⟨c2, own'', sv', u, rfl, m1.rel 0 sv' u rfl rfl, m2, ⟨by rw [← hS.n]; exact m4, fun r hr => (m3 r (by rw [hS.n]; exact hr)).trans (h4.t r hr), fun b o hb => m5.f b o (h4.f b o hb)⟩, h5.trans m5, k6⟩

end

mutual
def shS (n : Nat) : SV → SV
  | .d d => .d d
  | .agg cs => .agg (shL n cs)
  | .tup cs => .tup (shL n cs)
  | .ptr r off => .ptr (r + n) off
  | .hd r => .hd (r + n)
  | .fp ds => .fp ds
  | .rp r sz i j => .rp (r + n) sz i j
  | .rs r sz i => .rs (r + n) sz i
  | .clo fn fs cs => .clo fn (shL n fs) (shL n cs)
  | .top => .top
def shL (n : Nat) : List SV → List SV
  | [] => []
  | s :: l => shS n s :: shL n l
end
def shR (n : Nat) : Res → Res
  | .cells cs ty => .cells (shL n cs) ty
  | x => x

theorem shL_len (n : Nat) : ∀ l : List SV, (shL n l).length = l.length
  | [] => rfl
  | _ :: l => by simp [shL, shL_len n l]
theorem shL_get (n : Nat) : ∀ (l : List SV) (i : Nat), (shL n l)[i]? = (l[i]?).map (shS n)
  | [], i => by simp [shL]
  | s :: l, 0 => by simp [shL]
  | s :: l, i + 1 => by simp [shL, shL_get n l i]

mutual
theorem sh_rel {c c' : Cx} {n : Nat} (hF : c'.F = c.F) (hN : c'.N = n + c.N) (hθ : ∀ r, c'.θ (r + n) = c.θ r) : ∀ {s : SV} {u : Value}, Rel c s u → Rel c' (shS n s) u
  | .d d, u, h => by cases h with | d h => exact .d (by rw [hF]; exact h)
  | .fp ds, u, h => by cases h with | fp h1 h2 => exact .fp (by rw [hF]; exact h1) (by rw [hF]; exact h2)
  | .top, u, h => .top u
  | .agg cs, u, h => by
    obtain ⟨us, rfl, h2⟩ := Rel.agg_iff.1 h
    exact Rel.agg_iff.2 ⟨us, rfl, shL_rel hF hN hθ h2⟩
  | .tup cs, u, h => by
    obtain ⟨us, rfl, h2⟩ := Rel.tup_iff.1 h
    exact Rel.tup_iff.2 ⟨us, rfl, shL_rel hF hN hθ h2⟩
  | .clo fn fs cs, u, h => by
    obtain ⟨us, vs, rfl, h2, h3⟩ := Rel.clo_iff.1 h
    exact Rel.clo_iff.2 ⟨us, vs, rfl, shL_rel hF hN hθ h2, shL_rel hF hN hθ h3⟩
  | .ptr r off, u, h => by cases h with | ptr h1 h2 => exact .ptr (by rw [hN]; omega) (by rw [hθ]; exact h2)
  | .hd r, u, h => by cases h with | hd h1 h2 => exact .hd (by rw [hN]; omega) (by rw [hθ]; exact h2)
  | .rp r sz i j, u, h => by cases h with | rp h1 h2 => exact .rp (by rw [hN]; omega) (by rw [hθ]; exact h2)
  | .rs r sz i, u, h => by cases h with | rs h1 h2 => exact .rs (by rw [hN]; omega) (by rw [hθ]; exact h2)
theorem shL_rel {c c' : Cx} {n : Nat} (hF : c'.F = c.F) (hN : c'.N = n + c.N) (hθ : ∀ r, c'.θ (r + n) = c.θ r) : ∀ {l : List SV} {us : List Value}, RelL c l us → RelL c' (shL n l) us
  | [], us, h => by rw [RelL.nil_iff.1 h]; exact .nil
  | s :: l, us, h => by
    obtain ⟨u, us', rfl, h1, h2⟩ := RelL.cons_iff.1 h
    exact .cons (sh_rel hF hN hθ h1) (shL_rel hF hN hθ h2)
end

section
variable {P : Program} {f : FuncId}

/-- A call that is handed nothing that is owned: what it makes comes behind what the caller owns. -/
theorem SCall.frame {own : List Res} {args : List SV} {K : SV → List Res → Prop} (h : SCall P f [] args K) (ha : closedL args = true) :
    SCall P f own args (fun sv own' => ∃ sv0 own0, K sv0 own0 ∧ sv = shS own.length sv0 ∧ own' = own ++ own0.map (shR own.length)) := by
  refine ⟨h.1, fun c w us hS hr => ?_⟩
  refine (h.2 { c with N := 0 } w us hS.empty (closedL_rel (c := c) (c' := { c with N := 0 }) (fun _ _ h => h) ha hr)).mono ?_
  rintro e w' ⟨c1, own1, sv, u, rfl, h2, h3, h4, h5, h6⟩
  have hno : ∀ b, ¬ Own { c with N := 0 } [] b := fun b ⟨r, x, hx, _⟩ => by simp at hx
  have hkeep : ∀ b, b < w.heap.size → w'.heap[b]? = w.heap[b]? := fun b hb => h5.keep b hb (hno b)
  have hnew : ∀ b, c1.F b ≠ none → c.F b ≠ none ∨ w.heap.size ≤ b := fun b hb => by
    rcases h5.newF b hb with h | h | h
    · exact .inl h
    · exact .inr h
    · exact (hno b h).elim
  have hnewO : ∀ b, Own c1 own1 b → w.heap.size ≤ b := fun b hb => (h5.newO b hb).elim (fun h => (hno b h).elim) id
  let n := own.length
  have hn : c.N = n := hS.n.symm
  let c2 : Cx := { θ := fun r => if r < n then c.θ r else c1.θ (r - n), F := c1.F, N := n + c1.N }
  have hθ1 : ∀ r, r < n → c2.θ r = c.θ r := fun r hr => by simp [c2, hr]
  have hθ2 : ∀ r, c2.θ (r + n) = c1.θ r := fun r => by simp only [c2]; rw [if_neg (by omega), Nat.add_sub_cancel]
  have hle : c.le c2 := ⟨by rw [hn]; exact Nat.le_add_right _ _, fun r hr => hθ1 r (by rw [← hn]; exact hr), h5.f⟩
  have hget : ∀ (r : Nat) x, (own ++ own1.map (shR n))[r]? = some x → (r < n ∧ own[r]? = some x) ∨ ∃ q y, r = q + n ∧ own1[q]? = some y ∧ x = shR n y := fun r x hx => by
    rw [List.getElem?_append] at hx
    split at hx
    · exact .inl ⟨by assumption, hx⟩
    · rename_i hge
      rw [List.getElem?_map, Option.map_eq_some_iff] at hx
      obtain ⟨y, hy, rfl⟩ := hx
      exact .inr ⟨r - n, y, by omega, hy, rfl⟩
  have hlive : ∀ y, (shR n y).live = y.live := fun y => by cases y <;> rfl
  refine ⟨c2, own ++ own1.map (shR n), shS n sv, u, rfl, sh_rel (c := c1) (c' := c2) rfl rfl hθ2 h2, ⟨by simp [c2, n, h3.n], ?_, ?_, ?_, ?_, ?_⟩, hle, ⟨h5.os, h5.tape, h5.output, h5.size, fun b hb _ => hkeep b hb, fun b hb => (hnew b hb).elim .inl (fun h => .inr (.inl h)), ?_, h5.f⟩, sv, own1, h6, rfl, rfl⟩
  · intro r x hx
    rcases hget r x hx with ⟨hr, hx⟩ | ⟨q, y, rfl, hy, rfl⟩
    · rw [hθ1 r hr]
      exact (hS.res r x hx).keep hle fun hl b hb => hkeep b (hS.blk_lt ⟨r, x, hx, hl, hb⟩)
    · rw [hθ2]
      have := h3.res q y hy
      cases y with
      | gone => trivial
      | fz es => exact this
      | fzc ds => exact sh_rel (c := c1) (c' := c2) (n := n) (s := .fp ds) rfl rfl hθ2 this
      | row ty sz es => exact this
      | mp mk agg es => exact this
      | cells cs ty =>
        obtain ⟨b, us, k1, k2, k3, k4⟩ := this
        refine ⟨b, us, k1, k2, by rw [shL_len]; exact k3, fun i s hi => ?_⟩
        rw [shL_get, Option.map_eq_some_iff] at hi
        obtain ⟨s0, hs0, rfl⟩ := hi
        obtain ⟨u, m1, m2, m3⟩ := k4 i s0 hs0
        exact ⟨u, m1, m2, sh_rel (c := c1) (c' := c2) rfl rfl hθ2 m3⟩
  · intro r s x y b hx hy hlx hly hbx hby
    rcases hget r x hx with ⟨hr, hx⟩ | ⟨q, x', rfl, hx', rfl⟩
    · rw [hθ1 r hr] at hbx
      rcases hget s y hy with ⟨hs, hy⟩ | ⟨q', y', rfl, hy', rfl⟩
      · rw [hθ1 s hs] at hby
        exact hS.apart r s x y b hx hy hlx hly hbx hby
      · rw [hθ2] at hby
        have h1 := hS.blk_lt ⟨r, x, hx, hlx, hbx⟩
        have h2 := hnewO b ⟨q', y', hy', by rw [← hlive]; exact hly, hby⟩
        omega
    · rw [hθ2] at hbx
      rcases hget s y hy with ⟨hs, hy⟩ | ⟨q', y', rfl, hy', rfl⟩
      · rw [hθ1 s hs] at hby
        have h1 := hS.blk_lt ⟨s, y, hy, hly, hby⟩
        have h2 := hnewO b ⟨q, x', hx', by rw [← hlive]; exact hlx, hbx⟩
        omega
      · rw [hθ2] at hby
        rw [h3.apart q q' x' y' b hx' hy' (by rw [← hlive]; exact hlx) (by rw [← hlive]; exact hly) hbx hby]
  · intro r x b hx hl hb
    rcases hget r x hx with ⟨hr, hx⟩ | ⟨q, y, rfl, hy, rfl⟩
    · rw [hθ1 r hr] at hb
      have h0 := hS.notF r x b hx hl hb
      show c1.F b = none
      cases hc : c1.F b with
      | none => rfl
      | some o =>
        rcases hnew b (by simp [hc]) with h | h
        · exact absurd h0 h
        · have := hS.blk_lt ⟨r, x, hx, hl, hb⟩; omega
    · rw [hθ2] at hb
      exact h3.notF q y b hy (by rw [← hlive]; exact hl) hb
  · exact h3.le
  · intro r
    simp only [c2]
    split
    · exact hS.one r
    · exact h3.one _
  · rintro b ⟨r, x, hx, hl, hb⟩
    rcases hget r x hx with ⟨hr, hx⟩ | ⟨q, y, rfl, hy, rfl⟩
    · rw [hθ1 r hr] at hb
      exact .inl ⟨r, x, hx, hl, hb⟩
    · rw [hθ2] at hb
      exact .inr (hnewO b ⟨q, y, hy, by rw [← hlive]; exact hl, hb⟩)

end

/- More of the evaluation. -/
theorem BoxN_eq (own : List Res) (ty : TypeId) (s : SV) (K : SV → List Res → Prop) : BoxN own ty s K = (s.flat = true ∧ s.cells.all SV.one = true ∧ K (.ptr own.length 0) (own ++ [.cells s.cells ty])) := rfl

/-- An index into a slice of known make. -/
theorem IdxN_map {α : Type} (own : List Res) (sz : Nat) (enc : α → List D) (xs : List α) (k : IntKind) (n : Int) (K : SV → Prop) (hsz : ∀ x, (enc x).length = sz) :
    IdxN own sz (.d (.sl (xs.map enc))) (.d (.val (.int k n))) K ↔ (0 ≤ n ∧ n < xs.length ∧ ∀ x, xs[n.toNat]? = some x → K (.fp (enc x))) := by
  simp only [IdxN, List.length_map, List.getElem?_map, Option.map_eq_some_iff]
  constructor
  · rintro ⟨h1, h2, h3⟩
    exact ⟨h1, h2, fun x hx => (h3 _ ⟨x, hx, rfl⟩).2⟩
  · rintro ⟨h1, h2, h3⟩
    exact ⟨h1, h2, fun ds ⟨x, hx, e⟩ => by subst e; exact ⟨hsz x, h3 x hx⟩⟩

def dI (n : Int) : List D := [.val (.int .i64 n)]
def dB (b : Bool) : List D := [.val (.bool b)]
def dL (l : List Int) : List D := [.sl (l.map dI)]
@[reducible] def SV.ints (l : List Int) : SV := .d (.sl (l.map dI))
@[reducible] def SV.bools (l : List Bool) : SV := .d (.sl (l.map dB))
@[reducible] def SV.lists (l : List (List Int)) : SV := .d (.sl (l.map dL))

theorem IdxN_dI (own : List Res) (xs : List Int) (k : IntKind) (n : Int) (K : SV → Prop) : IdxN own 1 (.d (.sl (xs.map dI))) (.d (.val (.int k n))) K ↔ (0 ≤ n ∧ n < xs.length ∧ ∀ x, xs[n.toNat]? = some x → K (.fp (dI x))) := IdxN_map own 1 dI xs k n K fun _ => rfl
theorem IdxN_dB (own : List Res) (xs : List Bool) (k : IntKind) (n : Int) (K : SV → Prop) : IdxN own 1 (.d (.sl (xs.map dB))) (.d (.val (.int k n))) K ↔ (0 ≤ n ∧ n < xs.length ∧ ∀ x, xs[n.toNat]? = some x → K (.fp (dB x))) := IdxN_map own 1 dB xs k n K fun _ => rfl
theorem IdxN_dL (own : List Res) (xs : List (List Int)) (k : IntKind) (n : Int) (K : SV → Prop) : IdxN own 1 (.d (.sl (xs.map dL))) (.d (.val (.int k n))) K ↔ (0 ≤ n ∧ n < xs.length ∧ ∀ x, xs[n.toNat]? = some x → K (.fp (dL x))) := IdxN_map own 1 dL xs k n K fun _ => rfl

theorem LoadN_fp (own : List Res) (sz : Nat) (agg : Bool) (ds : List D) (K : SV → Prop) : LoadN own sz agg (.fp ds) K = PureN (sload own sz agg (.fp ds)) K := rfl
theorem LoadN_ptr (own : List Res) (sz : Nat) (agg : Bool) (r k : Nat) (K : SV → Prop) : LoadN own sz agg (.ptr r k) K = PureN (sload own sz agg (.ptr r k)) K := rfl

end Go.SX
