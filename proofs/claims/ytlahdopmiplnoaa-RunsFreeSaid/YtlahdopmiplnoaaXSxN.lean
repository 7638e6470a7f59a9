/-
  Code, loops, functions.
-/
import Derived.Test.YtlahdopmiplnoaaXSxMd
namespace Go.SX
open Go

inductive DC where
  | skip
  | reg (gs : List GOp)
  | par (gs : List GOp)
  | seq (a b : DC)
  | cond (c : Operand) (x y : DC)
  | block (id : Nat) (c : DC)
  | loop (c : DC)
  | exit (id : Nat)
  | ret
deriving Inhabited

inductive DX where
  | normal
  | exit (id : Nat)
  | ret

def compC (P : Program) : Code → Option DC
  | .skip => some .skip
  | .region _ ops draw =>
    match compOps P ops ops.toList with
    | some gs => if draw then (if P.follows .mixedOrders && regChk ops gs then some (.par gs) else none) else some (.reg gs)
    | none => none
  | .seq a b => (match compC P a, compC P b with | some x, some y => some (.seq x y) | _, _ => none)
  | .cond c a b => (match compC P a, compC P b with | some x, some y => some (.cond c x y) | _, _ => none)
  | .block id a => (match compC P a with | some x => some (.block id x) | none => none)
  | .loop a => (match compC P a with | some x => some (.loop x) | none => none)
  | .exit id => some (.exit id)
  | .ret => some .ret
  | _ => none

def CondN (c : SV) (A B : Prop) : Prop :=
  match c with
  | .d (.val (.bool b)) => (b = true → A) ∧ (b = false → B)
  | _ => False

/-- A state may be looked at as another one. -/
def StLe (n0 : Nat) (env : List SV) (own : List Res) (env' : List SV) (own' : List Res) : Prop :=
  ∀ (c : Cx) (a : Act) (w : World), n0 ≤ c.N → EnvOk c env a → Sat c own w →
    ∃ c', EnvOk c' env' a ∧ Sat c' own' w ∧ (∀ r, r < n0 → c'.θ r = c.θ r) ∧ n0 ≤ c'.N ∧ Goes c own w c' own' w

/-- A loop, by its states. -/
def LoopN (n0 : Nat) (body : List SV → List Res → (DX → List SV → List Res → Prop) → Prop) (env : List SV) (own : List Res) (K : DX → List SV → List Res → Prop) : Prop :=
  ∃ (ι : Type) (S : ι → List SV) (O : ι → List Res) (φ : ι → Prop) (μ : ι → Nat), (∃ i, φ i ∧ StLe n0 env own (S i) (O i)) ∧
    ∀ i, φ i → body (S i) (O i) (fun e env' own' => match e with
      | .normal => ∃ j, φ j ∧ μ j < μ i ∧ StLe n0 env' own' (S j) (O j)
      | e => K e env' own')

def wpD (P : Program) (n0 : Nat) : DC → List SV → List Res → (DX → List SV → List Res → Prop) → Prop
  | .skip, env, own, K => K .normal env own
  | .reg gs, env, own, K => run P gs env own (fun env own => K .normal env own)
  | .par gs, env, own, K => (match gs.any GOp.isBox with
    | true => (match boxChk env.length gs with
      | true => runF P (gs.map GOp.blank) env own (fun env' => boxN gs env' own gs env' own (fun env own => K .normal env own))
      | false => False)
    | false => runF P gs env own (fun env => K .normal env own))
  | .seq a b, env, own, K => wpD P n0 a env own (fun e env' own' => match e with | .normal => wpD P n0 b env' own' K | e => K e env' own')
  | .cond c x y, env, own, K => CondN (evn own env c) (wpD P n0 x env own K) (wpD P n0 y env own K)
  | .block id c, env, own, K => wpD P n0 c env own (fun e env' own' => match e with | .exit id' => if id' = id then K .normal env' own' else K (.exit id') env' own' | e => K e env' own')
  | .loop c, env, own, K => LoopN n0 (wpD P n0 c) env own K
  | .exit id, env, own, K => K (.exit id) env own
  | .ret, env, own, K => K .ret env own

def toX : DX → Exit
  | .normal => .normal
  | .exit id => .exit id
  | .ret => .ret

section
variable {P : Program} {n0 : Nat}

theorem Nx.mono {c : Cx} {own : List Res} {w : World} {K K' : List SV → List Res → Prop} {a' : Act} {w' : World} (h : Nx n0 c own w K a' w') (hK : ∀ env own, K env own → K' env own) : Nx n0 c own w K' a' w' := by
  obtain ⟨h1, c', env', own', h2, h3, h4, h5, h6, h7⟩ := h
  exact ⟨h1, c', env', own', h2, h3, h4, h5, h6, hK _ _ h7⟩

/-- What holds behind a later state holds behind an earlier one. -/
theorem Nx.back {c c1 : Cx} {own own1 : List Res} {w w1 : World} {K : List SV → List Res → Prop} {a' : Act} {w' : World} (ht : ∀ r, r < n0 → c1.θ r = c.θ r) (hg : Goes c own w c1 own1 w1) (h : Nx n0 c1 own1 w1 K a' w') : Nx n0 c own w K a' w' := by
  obtain ⟨h1, c', env', own', h2, h3, h4, h5, h6, h7⟩ := h
  exact ⟨h1, c', env', own', h2, h3, fun r hr => (h4 r hr).trans (ht r hr), h5, hg.trans h6, h7⟩

theorem exists_least (p : Nat → Prop) (h : ∃ n, p n) : ∃ n, p n ∧ ∀ m, p m → n ≤ m := by
  obtain ⟨n, hn⟩ := h
  induction n using Nat.strongRecOn with
  | _ n ih =>
    by_cases hx : ∃ m, m < n ∧ p m
    · obtain ⟨m, h1, h2⟩ := hx; exact ih m h1 h2
    · exact ⟨n, hn, fun m hm => by
        rcases Nat.lt_or_ge m n with h | h
        · exact absurd ⟨m, h, hm⟩ hx
        · exact h⟩

theorem wpD_sound (code : Code) : ∀ (dc : DC) {c : Cx} {env : List SV} {own : List Res} {a : Act} {w : World} {K : DX → List SV → List Res → Prop} {Q : Exit → Act → World → Prop}, compC P code = some dc → EnvOk c env a → Sat c own w → n0 ≤ c.N → a.defers = [] →
    wpD P n0 dc env own K → (∀ e a' w', Nx n0 c own w (K e) a' w' → Q (toX e) a' w') → code.wp P Q a w := by
  induction code with
  | skip =>
    intro dc c env own a w K Q hc hE hS hn hd h hQ
    cases hc
    exact wp_skip (hQ .normal a w ⟨hd, c, env, own, hE, hS, fun _ _ => rfl, hn, .refl c own w, h⟩)
  | region id ops draw =>
    intro dc c env own a w K Q hc hE hS hn hd h hQ
    unfold compC at hc
    split at hc
    · rename_i gs hgs
      split at hc
      · rename_i hdr
        split at hc
        · rename_i hcond
          cases hc
          simp only [Bool.and_eq_true] at hcond
          subst hdr
          simp only [wpD] at h
          split at h
          · split at h
            · rename_i hbc
              exact region_box hcond.1 hgs hcond.2 hbc hE hS hn hd h fun a' w' hnx => hQ .normal a' w' hnx
            · exact h.elim
          · exact region_any hcond.1 hgs hcond.2 hE hS hn hd h fun a' w' hnx => hQ .normal a' w' (hnx.mono fun env' own' ⟨h1, h2⟩ => h1 ▸ h2)
        · cases hc
      · rename_i hdr
        cases hc
        have hdr : draw = false := by simpa using hdr
        subst hdr
        refine wp_region_list (run_sound ops ops.toList gs hgs hE hS hn hd h fun a' w' hnx => hQ .normal a' w' hnx)
    · cases hc
  | seq x y ihx ihy =>
    intro dc c env own a w K Q hc hE hS hn hd h hQ
    unfold compC at hc
    split at hc
    · rename_i dx dy hx hy
      cases hc
      refine wp_seq (ihx dx hx hE hS hn hd h fun e a' w' hnx => ?_)
      cases e with
      | normal =>
        obtain ⟨h1, c', env', own', h2, h3, h4, h5, h6, h7⟩ := hnx
        exact ihy dy hy h2 h3 h5 h1 h7 fun e a'' w'' hnx' => hQ e a'' w'' (hnx'.back h4 h6)
      | exit id => exact hQ (.exit id) a' w' hnx
      | ret => exact hQ .ret a' w' hnx
    · cases hc
  | cond k x y ihx ihy =>
    intro dc c env own a w K Q hc hE hS hn hd h hQ
    unfold compC at hc
    split at hc
    · rename_i dx dy hx hy
      cases hc
      simp only [wpD, CondN] at h
      have hr := nrm_rel hS (ev_rel hE k)
      split at h
      · rename_i b hb
        unfold evn at hb
        rw [hb] at hr
        exact wp_cond_split hr.of_val (fun hb => ihx dx hx hE hS hn hd (h.1 hb) hQ) (fun hb => ihy dy hy hE hS hn hd (h.2 hb) hQ)
      · exact h.elim
    · cases hc
  | block id x ihx =>
    intro dc c env own a w K Q hc hE hS hn hd h hQ
    unfold compC at hc
    split at hc
    · rename_i dx hx
      cases hc
      refine wp_block (ihx dx hx hE hS hn hd h fun e a' w' hnx => ?_)
      cases e with
      | normal => exact hQ .normal a' w' hnx
      | exit id' =>
        show if id' = id then Q .normal a' w' else Q (.exit id') a' w'
        split
        · rename_i e; exact hQ .normal a' w' (hnx.mono fun env own h => by simpa [e] using h)
        · rename_i e; exact hQ (.exit id') a' w' (hnx.mono fun env own h => by simpa [e] using h)
      | ret => exact hQ .ret a' w' hnx
    · cases hc
  | loop x ihx =>
    intro dc c env own a w K Q hc hE hS hn hd h hQ
    unfold compC at hc
    split at hc
    · rename_i dx hx
      cases hc
      obtain ⟨ι, S, O, φ, μ, ⟨i0, hφ0, hle0⟩, hbody⟩ := h
      -- the invariant: some state of the loop's, reached from where it began
      let I : Nat → Act → World → Prop := fun m a' w' => a'.defers = [] ∧ ∃ i c', φ i ∧ μ i = m ∧ EnvOk c' (S i) a' ∧ Sat c' (O i) w' ∧ (∀ r, r < n0 → c'.θ r = c.θ r) ∧ n0 ≤ c'.N ∧ Goes c own w c' (O i) w'
      obtain ⟨c1, k1, k2, k3, k4, k5⟩ := hle0 c a w hn hE hS
      have h0 : ∃ m, I m a w := ⟨μ i0, hd, i0, c1, hφ0, rfl, k1, k2, k3, k4, k5⟩
      classical
      refine wp_loop (fun a' w' => ∃ m, I m a' w') (fun a' w' => if h : ∃ m, I m a' w' then Classical.choose (exists_least _ h) else 0) h0 fun a' w' hI => ?_
      have hspec := (Classical.choose_spec (exists_least _ hI)).1
      obtain ⟨hd', i, c', hφ, hμ, hE', hS', ht', hn', hg'⟩ := hspec
      refine ihx dx hx hE' hS' hn' hd' (hbody i hφ) fun e a'' w'' hnx => ?_
      cases e with
      | normal =>
        obtain ⟨h1, c2, env2, own2, h2, h3, h4, h5, h6, j, hφj, hlt, hle⟩ := hnx
        obtain ⟨c3, m1, m2, m3, m4, m5⟩ := hle c2 a'' w'' h5 h2 h3
        have hj : I (μ j) a'' w'' := ⟨h1, j, c3, hφj, rfl, m1, m2, fun r hr => (m3 r hr).trans ((h4 r hr).trans (ht' r hr)), m4, (hg'.trans h6).trans m5⟩
        show (∃ m, I m a'' w'') ∧ _
        refine ⟨⟨_, hj⟩, ?_⟩
        rw [dif_pos ⟨_, hj⟩, dif_pos hI]
        have := (Classical.choose_spec (exists_least (fun m => I m a'' w'') ⟨_, hj⟩)).2 _ hj
        omega
      | exit id => exact hQ (.exit id) a'' w'' (hnx.back ht' hg')
      | ret => exact hQ .ret a'' w'' (hnx.back ht' hg')
    · cases hc
  | exit id =>
    intro dc c env own a w K Q hc hE hS hn hd h hQ
    cases hc
    exact wp_exit (hQ (.exit id) a w ⟨hd, c, env, own, hE, hS, fun _ _ => rfl, hn, .refl c own w, h⟩)
  | ret =>
    intro dc c env own a w K Q hc hE hS hn hd h hQ
    cases hc
    exact wp_ret (hQ .ret a w ⟨hd, c, env, own, hE, hS, fun _ _ => rfl, hn, .refl c own w, h⟩)
  | rangeFunc f ps x y _ _ => intro dc c env own a w K Q hc; cases hc
  | scope x _ => intro dc c env own a w K Q hc; cases hc
  | label l => intro dc c env own a w K Q hc; cases hc
  | goto l => intro dc c env own a w K Q hc; cases hc
  | refuse s => intro dc c env own a w K Q hc; cases hc

end
end Go.SX
