/-
  Loops and calls in walks: how a state is met.
-/
import Derived.Test.YtlahdopmiplnoaaXSxR
namespace Go.SX
open Go

structure EqD (d' d : D) (R : Unit → Prop) : Prop where
  h : d' = d
  k : R ()
structure EqSV (s' s : Option SV) (R : Unit → Prop) : Prop where
  h : s' = s
  k : R ()
structure EqDs (es' es : List D) (R : Unit → Prop) : Prop where
  h : es' = es
  k : R ()
structure EqM (es' es : List (Value × List D)) (R : Unit → Prop) : Prop where
  h : es' = es
  k : R ()
structure EqL (es' es : List (List D)) (R : Unit → Prop) : Prop where
  h : es' = es
  k : R ()

/-- The value met tells no more than the value there. -/
def mtS (own : List Res) (p : List Nat) (s' s : SV) (R : Unit → Prop) : Prop :=
  match s' with
  | .top => R ()
  | .d d' => (match nrm own s with | .d d => EqD d' d R | _ => False)
  | s' => EqSV (renSV p s') (some s) R

theorem mtS_le {own : List Res} {p : List Nat} {s' s : SV} {R : Unit → Prop} (h : mtS own p s' s R) : leS own p s' s ∧ R () := by
  unfold mtS at h
  split at h
  · exact ⟨.inl rfl, h⟩
  · rename_i d'
    split at h
    · rename_i d hd
      obtain ⟨rfl, h⟩ := h
      exact ⟨.inr (.inr (.inl (by simp [renSV, hd]))), h⟩
    · exact h.elim
  · exact ⟨.inr (.inl h.h), h.k⟩

def mtL (own : List Res) (p : List Nat) : List SV → List SV → (Unit → Prop) → Prop
  | [], [], R => R ()
  | s' :: l', s :: l, R => mtS own p s' s (fun _ => mtL own p l' l R)
  | _, _, _ => False
theorem mtL_le {own : List Res} {p : List Nat} : ∀ {l' l : List SV} {R : Unit → Prop}, mtL own p l' l R → leL own p l' l ∧ R ()
  | [], [], _, h => ⟨trivial, h⟩
  | s' :: l', s :: l, R, h => by
    obtain ⟨h1, h2⟩ := mtS_le h
    obtain ⟨h3, h4⟩ := mtL_le h2
    exact ⟨⟨h1, h3⟩, h4⟩
  | [], _ :: _, _, h => h.elim
  | _ :: _, [], _, h => h.elim

def mtR (own : List Res) (p : List Nat) (x' x : Res) (R : Unit → Prop) : Prop :=
  match x', x with
  | .gone, _ => R ()
  | .fz es', .fz es => EqL es' es R
  | .row ty' sz' es', .row ty sz es => (match Nat.beq ty' ty && Nat.beq sz' sz with | true => EqL es' es R | false => False)
  | .cells cs' ty', .cells cs ty => (match Nat.beq ty' ty with | true => mtL own p cs' cs R | false => False)
  | .fzc ds', .fzc ds => EqDs ds' ds R
  | .mp mk' agg' es', .mp mk agg es => (match decide (mk' = mk) && (agg' == agg) with | true => EqM es' es R | false => False)
  | _, _ => False
theorem mtR_le {own : List Res} {p : List Nat} {x' x : Res} {R : Unit → Prop} (h : mtR own p x' x R) : leR own p x' x ∧ R () := by
  unfold mtR at h
  split at h
  · exact ⟨by simp [leR], h⟩
  · exact ⟨h.h, h.k⟩
  · rename_i ty' sz' es' ty sz es
    cases h1 : Nat.beq ty' ty <;> simp [h1] at h
    cases h2 : Nat.beq sz' sz <;> simp [h2] at h
    exact ⟨⟨beqT h1, beqT h2, h.h⟩, h.k⟩
  · rename_i cs' ty' cs ty
    cases h1 : Nat.beq ty' ty <;> simp [h1] at h
    obtain ⟨h3, h4⟩ := mtL_le h
    exact ⟨⟨beqT h1, h3⟩, h4⟩
  · exact ⟨h.h, h.k⟩
  · rename_i mk' agg' es' mk agg es
    cases h1 : (decide (mk' = mk) && (agg' == agg)) with
    | false => rw [h1] at h; exact h.elim
    | true =>
      rw [h1] at h
      simp at h1
      exact ⟨⟨h1.1, h1.2, h.h⟩, h.k⟩
  · exact h.elim

def mtO (own : List Res) (p : List Nat) : List Nat → List Res → (Unit → Prop) → Prop
  | [], [], R => R ()
  | r :: q, x' :: l', R => mtR own p x' (getr own r) (fun _ => mtO own p q l' R)
  | _, _, _ => False
theorem mtO_le {own : List Res} {p : List Nat} : ∀ {q : List Nat} {l' : List Res} {R : Unit → Prop}, mtO own p q l' R → leO own p q l' ∧ R ()
  | [], [], _, h => ⟨trivial, h⟩
  | r :: q, x' :: l', R, h => by
    obtain ⟨h1, h2⟩ := mtR_le h
    obtain ⟨h3, h4⟩ := mtO_le h2
    exact ⟨⟨h1, h3⟩, h4⟩
  | [], _ :: _, _, h => h.elim
  | _ :: _, [], _, h => h.elim

def okP : List Nat → Nat → Bool
  | [], _ => true
  | r :: l, n => Nat.blt r n && (l.all (fun s => !Nat.beq r s) && okP l n)
theorem okP_lt : ∀ {l : List Nat} {n : Nat}, okP l n = true → ∀ r ∈ l, r < n
  | [], _, _, r, h => by simp at h
  | a :: l, n, h, r, hr => by
    simp only [okP, Bool.and_eq_true] at h
    rcases List.mem_cons.1 hr with rfl | hr
    · exact of_decide_eq_true (by simpa [Nat.blt_eq] using h.1)
    · exact okP_lt h.2.2 r hr
theorem okP_nodup : ∀ {l : List Nat} {n : Nat}, okP l n = true → l.Nodup
  | [], _, _ => List.nodup_nil
  | a :: l, n, h => by
    simp only [okP, Bool.and_eq_true] at h
    refine List.nodup_cons.2 ⟨fun hm => ?_, okP_nodup h.2.2⟩
    have := List.all_eq_true.1 h.2.1 a hm
    simp [Nat.beq_refl] at this

/-- All that is asked of a state that is met. -/
noncomputable def mt (p : List Nat) (env : List SV) (own : List Res) (env' : List SV) (own' : List Res) : Prop :=
  match okP p own.length with
  | true => mtL own p env' env (fun _ => mtO own p p own' (fun _ => True))
  | false => False
theorem StLe.mt {env env' : List SV} {own own' : List Res} (p : List Nat) (h : mt p env own env' own') : StLe 0 env own env' own' := by
  unfold Go.SX.mt at h
  split at h
  · rename_i hp
    obtain ⟨h1, h2⟩ := mtL_le h
    obtain ⟨h3, _⟩ := mtO_le h2
    exact .mk p (okP_nodup hp) (okP_lt hp) (fun r hr => absurd hr (by omega)) h1 h3
  · exact h.elim

/-- A nil slice looked at as an empty row. -/
theorem StLe.nilrow {env env' : List SV} {own own' : List Res} (i : Nat) (ty sz : Nat) (hi : geti env i = .d (.val (.slice none 0 0))) (h : StLe 0 (seti env i (.hd own.length)) (own ++ [.row ty sz []]) env' own') : StLe 0 env own env' own' := (StLe.row i ty sz hi).trans h

def iAt (env : List SV) (n : Nat) : Int := match geti env n with | .d (.val (.int _ a)) => a | _ => 0
def bAt (env : List SV) (n : Nat) : Bool := match geti env n with | .d (.val (.bool a)) => a | _ => false
def lAt (env : List SV) (n : Nat) : List (List D) := match geti env n with | .d (.sl es) => es | _ => []
def hAt (env : List SV) (n : Nat) : Nat := match geti env n with | .hd r => r | _ => 0
def rAt (own : List Res) (n : Nat) : List (List D) := match getr own n with | .row _ _ es => es | _ => []

/-- A loop: its states `S`, `O` of an index; `J` reads the next index off a state. -/
theorem LoopS.intro {n0 : Nat} {body : List SV → List Res → (DX → List SV → List Res → Prop) → Prop} {env : List SV} {own : List Res} {K : DX → List SV → List Res → Prop} {ι : Type} (S : ι → List SV) (O : ι → List Res) (J : List SV → List Res → ι) (φ : ι → Prop) (μ : ι → Nat)
    (i0 : ι) (h0 : φ i0) (h1 : StLe n0 env own (S i0) (O i0))
    (h : ∀ i, φ i → ∀ Kn : List SV → List Res → Prop, (∀ env' own', StLe n0 env' own' (S (J env' own')) (O (J env' own')) → φ (J env' own') → μ (J env' own') < μ i → Kn env' own') → body (S i) (O i) (fun e env' own' => match e with | .normal => Kn env' own' | e => K e env' own')) :
    LoopS n0 body env own K := by
  refine ⟨ι, S, O, φ, μ, ⟨i0, h0, h1⟩, fun i hi => ?_⟩
  have := h i hi (fun env' own' => ∃ j, φ j ∧ μ j < μ i ∧ StLe n0 env' own' (S j) (O j)) fun env' own' h3 h1 h2 => ⟨_, h1, h2, h3⟩
  exact this

/- What a function hands back is data. -/
def frzR (own : List Res) : SV → List Res
  | .tup cs => frzL own cs
  | s => frzL own [s]
def nrmR (own : List Res) : SV → SV
  | .tup cs => .tup (cs.map (fun s => nilZ (nrm own s)))
  | .agg cs => .agg (cs.map (fun s => nilZ (nrm own s)))
  | s => nilZ (nrm own s)
theorem nrmR_rel {c : Cx} {own : List Res} {w : World} (hS : Sat c own w) {s : SV} {u : Value} (h : Rel c s u) : Rel c (nrmR own s) u := by
  have all : ∀ {cs : List SV} {us : List Value}, RelL c cs us → RelL c (cs.map (fun s => nilZ (nrm own s))) us := fun {cs us} hr => ⟨by rw [hr.1, List.length_map], fun i s u hs hu => by
    rw [List.getElem?_map, Option.map_eq_some_iff] at hs
    obtain ⟨s0, hs0, rfl⟩ := hs
    exact nilZ_rel (nrm_rel hS (hr.2 i s0 u hs0 hu))⟩
  unfold nrmR
  split
  · obtain ⟨us, rfl, h2⟩ := Rel.tup_iff.1 h
    exact Rel.tup_iff.2 ⟨us, rfl, all h2⟩
  · obtain ⟨us, rfl, h2⟩ := Rel.agg_iff.1 h
    exact Rel.agg_iff.2 ⟨us, rfl, all h2⟩
  · exact nilZ_rel (nrm_rel hS h)
theorem frzR_ok {c : Cx} {own : List Res} {w : World} (s : SV) (hS : Sat c own w) : ∃ c1, Sat c1 (frzR own s) w ∧ c.le c1 ∧ Goes c own w c1 (frzR own s) w := by
  unfold frzR
  split
  · exact frzL_ok _ hS
  · exact frzL_ok _ hS
theorem SCall.data {P : Program} {f : FuncId} {own : List Res} {args : List SV} {K0 K1 : SV → List Res → Prop} (h : SCall P f own args K0) (hK : ∀ sv own', K0 sv own' → K1 (nrmR (frzR own' sv) sv) (frzR own' sv)) : SCall P f own args K1 := by
  refine ⟨h.1, fun c w us hS hr => (h.2 c w us hS hr).mono ?_⟩
  rintro e w' ⟨c', own', sv, u, rfl, h2, h3, h4, h5, h6⟩
  obtain ⟨c1, k1, k2, k3⟩ := frzR_ok sv h3
  exact ⟨c1, _, _, u, rfl, nrmR_rel k1 (h2.mono k2), k1, h4.trans k2, h5.trans k3, hK _ _ h6⟩
theorem Fn1.walkD {P : Program} {f : FuncId} {df : DFn} {args : List SV} {s : SV} (hf : compF P f = some df)
    (h : ∀ K : SV → List Res → Prop, (∀ sv own', nrmR (frzR own' sv) sv = s → K sv own') → wpC P 0 df.code (pad df.ntmps args) [] (EndN df.res K)) : Fn1 P f args s :=
  SCall.data (K0 := fun sv own' => nrmR (frzR own' sv) sv = s) (SCall.walk hf h) fun _ _ h => h
theorem slE {es es' : List (List D)} (h : es = es') : SV.d (.sl es) = SV.d (.sl es') := by rw [h]
theorem biE {b b' : Bool} (h : b = b') : SV.b b = SV.b b' := by rw [h]
theorem inE {b b' : Int} (h : b = b') : SV.i b = SV.i b' := by rw [h]

theorem AppS.one {xs : List (List D)} {d : List D} {sz bytes : Nat} {K : Unit → Prop} (h : d.length = sz) (hl : xs.length ≤ 1000000000) (hb : bytes ≤ 100000) (hk : K ()) : AppS xs [d] sz bytes K := by
  refine ⟨by simpa using h, ?_, ?_, hk⟩
  · have : (xs.length + 1) * bytes ≤ 1000000001 * 100000 := Nat.mul_le_mul (by omega) hb
    exact Nat.le_trans this (by decide)
  · simp only [List.length_cons, List.length_nil, maxLen]; omega
theorem MksS.of {n : Int} {m bytes : Nat} {K : Unit → Prop} (h : n = m) (hm : m ≤ 1000000000) (hb : bytes ≤ 100000) (hk : K ()) : MksS n n bytes K := by
  subst h
  refine ⟨Int.natCast_nonneg _, rfl, ?_, by simp only [maxLen]; omega, hk⟩
  rw [Int.toNat_natCast]
  exact Nat.le_trans (Nat.mul_le_mul hm hb) (by decide)
theorem nc (n : Nat) : @NatCast.natCast Int instNatCastInt n = Int.ofNat n := rfl

theorem wr64 {n : Int} (h1 : -9223372036854775808 ≤ n) (h2 : n ≤ 9223372036854775807) : IntKind.i64.wrap n = n := by
  simp only [IntKind.wrap, IntKind.bits, IntKind.signed]
  simp
  omega

theorem IdxS.lists {xs : List (List Int)} {es : List (List D)} {n : Int} {K : SV → Prop} (he : es = xs.map dL) (h0 : 0 ≤ n) (h1 : n < xs.length)
    (hk : ∀ x y, xs[n.toNat]? = some x → y = x.map dI → K (.fp [.sl y])) : IdxS es n 1 K :=
  .map he h0 h1 (fun _ => rfl) fun x hx => hk x _ hx rfl

end Go.SX
