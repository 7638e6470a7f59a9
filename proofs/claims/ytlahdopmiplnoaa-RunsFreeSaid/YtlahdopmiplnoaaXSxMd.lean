/-
  A region whose order is drawn, in which variables are laid and set, ends in one frame.
-/
import Derived.Test.YtlahdopmiplnoaaXSxMc
namespace Go.SX
open Go Go.RowKit

section
variable {P : Program}

theorem compOp_alloc {op : Op} {ty : TypeId} {z : Value} (h : compOp P op = some (.alloc ty z)) : op = .alloc ty ∧ zeroB P ty = some z := by
  cases op with
  | alloc t =>
    simp only [compOp, Option.bind_eq_bind, Option.bind_eq_some_iff] at h
    obtain ⟨z', hz, h⟩ := h
    cases h
    exact ⟨rfl, hz⟩
  | _ => exfalso; revert h; simp only [compOp]; intro h; (repeat' split at h) <;> simp [Option.bind_eq_some_iff] at h <;> simp_all
theorem compOp_store {op : Op} {sz : Nat} {x v : Operand} (h : compOp P op = some (.store sz x v)) : ∃ t, op = .store t x v ∧ sizeB P t = some sz := by
  cases op with
  | store t x' v' =>
    simp only [compOp, Option.bind_eq_bind, Option.bind_eq_some_iff] at h
    obtain ⟨s, hs, h⟩ := h
    cases h
    exact ⟨t, rfl, hs⟩
  | _ => exfalso; revert h; simp only [compOp]; intro h; (repeat' split at h) <;> simp [Option.bind_eq_some_iff] at h <;> simp_all
theorem blank_self {g : GOp} (h : g.isBox = false) : g.blank = g := by
  obtain ⟨d, op, gd⟩ := g
  cases op <;> first | rfl | (simp [GOp.isBox] at h)

theorem region_box {n0 id : Nat} {ops : Array Oper} {gs : List GOp} {own : List Res} {c0 : Cx} {env : List SV} {a0 : Act} {w0 : World} {K : List SV → List Res → Prop} {Q : Exit → Act → World → Prop} (hm : P.follows .mixedOrders = true)
    (hcomp : compOps P ops ops.toList = some gs) (hchk : regChk ops gs = true) (hbox : boxChk env.length gs = true) (hE0 : EnvOk c0 env a0) (hS0 : Sat c0 own w0) (hn : n0 ≤ c0.N) (hd0 : a0.defers = []) (h : runF P (gs.map GOp.blank) env own (fun env' => boxN gs env' own gs env' own K))
    (hQ : ∀ a' w', Nx n0 c0 own w0 K a' w' → Q .normal a' w') : (Code.region id ops true).wp P Q a0 w0 := by
  obtain ⟨svs, fin, htr, hK⟩ := runF_trace (gs.map GOp.blank) h
  obtain ⟨hlen, hfinl, hfin, hat⟩ := Trace.at (gs.map GOp.blank) htr
  have hbl : ∀ (i : Nat) g', (gs.map GOp.blank)[i]? = some g' → ∃ g, gs[i]? = some g ∧ g' = g.blank ∧ g'.dst = g.dst := fun i g' hi => by
    rw [List.getElem?_map, Option.map_eq_some_iff] at hi
    obtain ⟨g, h1, rfl⟩ := hi
    exact ⟨g, h1, rfl, blank_dst hbox h1⟩
  have hbl2 : ∀ (i : Nat) g, gs[i]? = some g → (gs.map GOp.blank)[i]? = some g.blank := fun i g hi => by rw [List.getElem?_map, hi]; rfl
  obtain ⟨hgl, hget⟩ := compOps_get ops ops.toList hcomp
  have hgl : gs.length = ops.size := by rw [hgl]; simp
  -- what the check says
  have hc : ∀ (k : Nat) o g, ops[k]? = some o → gs[k]? = some g → (∀ e ∈ o.after, Region.binds .any e = true → e.on < k) ∧
      ∀ (i : Nat) oi gi t, i ≠ k → ops[i]? = some oi → gs[i]? = some gi → gi.dst = some t → (t ∈ g.looks ∨ g.dst = some t) → (i < k → edge o i = true) ∧ (k < i → edge oi k = true) := by
    intro k o g ho hg
    have hk : k < ops.size := (Array.getElem?_eq_some_iff.1 ho).1
    have h1 := List.all_eq_true.1 hchk k (by simpa using hk)
    simp only [ho, hg, Bool.and_eq_true] at h1
    obtain ⟨h1, h2⟩ := h1
    refine ⟨fun e he hb => ?_, fun i oi gi t hne hoi hgi hdi ht => ?_⟩
    · have := (Array.all_eq_true'.1 h1) e he
      simp [hb] at this; exact this
    · have hi : i < ops.size := (Array.getElem?_eq_some_iff.1 hoi).1
      have h3 := List.all_eq_true.1 h2 i (by simpa using hi)
      have hne' : (i == k) = false := by simpa using hne
      have hcond : (g.looks.contains t || g.dst == some t) = true := by
        rcases ht with ht | ht
        · simp [ht]
        · simp [ht]
      simp only [hne', Bool.false_or, hoi, hgi, hdi, hcond, if_true] at h3
      refine ⟨fun hik => by simpa [hik] using h3, fun hki => ?_⟩
      rw [if_neg (by omega)] at h3; exact h3
  -- what a store sets
  have hsto : ∀ (j : Nat) g sz d v, gs[j]? = some g → g.op = .store sz (.tmp d) v → ∃ sv, svs[j]? = some sv ∧ sv.flat = true ∧ sv.cells.length = sz ∧ sv.cells.all SV.one = true ∧
      (∀ (k : Nat) gk ty z, gs[k]? = some gk → gk.op = .alloc ty z → gk.dst = some d → sz = (cval z).cells.length) ∧ sv = evn own fin v := by
    intro j g sz d v hgj hoj
    obtain ⟨_, _, d', k, gk, ty, z, hx, hkj, hgk, hdk, hok, hone, hv⟩ := boxChk_store hbox hgj hoj
    cases hx
    obtain ⟨envj, sv, hsv, hjl, hstep, hej⟩ := hat j g.blank (hbl2 j g hgj)
    have hbk : g.blank = ⟨none, .mv v, none⟩ := by simp only [GOp.blank, hoj]
    rw [hbk] at hstep
    have hs1 : evn own envj v = sv := hstep
    have hs2 : evn own fin v = evn own envj v := by
      rcases hv with ⟨t, rfl, hw⟩ | ⟨u, rfl⟩
      · have : geti fin t = geti envj t := by
          by_cases ht : t < env.length
          · rw [hfin t ht, hej t ht]
            refine curF_congr (gs.map GOp.blank) svs 0 _ fun i g' hi hd' => ?_
            obtain ⟨g2, hg2, _, hd2⟩ := hbl i g' hi
            rw [hd2] at hd'
            have : ¬ j ≤ i := fun hji => hw i g2 hji hg2 hd'
            rw [Nat.zero_add]; simp; omega
          · have hge : env.length ≤ t := Nat.le_of_not_lt ht
            have e1 : fin[t]? = none := List.getElem?_eq_none (by rw [hfinl]; exact hge)
            have e2 : envj[t]? = none := List.getElem?_eq_none (by rw [hjl]; exact hge)
            rw [geti_eq, geti_eq, e1, e2]
        simp only [evn, ev, this]
      · rfl
    obtain ⟨cs, hcs⟩ := boxN_some gs hK k gk ty z d hgk hok hdk
    have hst := storeTo_at hgj hoj hone
    simp only [boxS, hst] at hcs
    split at hcs
    · rename_i hcond
      simp only [Bool.and_eq_true] at hcond
      obtain ⟨q1, q2, q3, q4⟩ := hcond
      rw [hs2, hs1] at q1 q2 q4
      refine ⟨sv, hsv, q1, Nat.eq_of_beq_eq_true q2, q4, fun k' gk' ty' z' hgk' hok' hdk' => ?_, by rw [hs2, hs1]⟩
      have hkk : k' = k := by
        rcases Nat.decEq k' k with hne | he
        · obtain ⟨_, _, _, d2, hd2, _, hun⟩ := boxChk_alloc hbox hgk hok
          rw [hdk] at hd2; cases hd2
          exact absurd hdk' (hun k' gk' hne hgk')
        · exact he
      subst hkk
      rw [hgk] at hgk'; cases hgk'
      rw [hok] at hok'; cases hok'
      exact Nat.eq_of_beq_eq_true q3
    · cases hcs
  refine wp_region_any hm ?_
  -- the invariant
  have main : ∀ (fuel : Nat) (listed : Array Bool) (a : Act) (w : World) (c : Cx), listed.size = ops.size → listed.toList.countP (! ·) ≤ fuel →
      (∀ (i : Nat) o, listed.getD i false = true → ops[i]? = some o → ∀ e ∈ o.after, Region.binds .any e = true → listed.getD e.on false = true) →
      Sat c own w → c0.le c → Goes c0 own w0 c own w → a.defers = [] → a.tmps.size = env.length → (∀ (t : Nat) u, a.tmps[t]? = some u → Rel c (curF (gs.map GOp.blank) svs 0 (fun i => listed.getD i false) t (geti env t)) u) → (∃ β, BoxOk w0.heap.size gs svs (fun i => listed.getD i false) c own a w β) →
      wpAny P .any ops Q fuel listed a w := by
    have done : ∀ (listed : Array Bool) (a : Act) (w : World) (c : Cx), listed.size = ops.size → (∀ i, i < ops.size → listed.getD i false = true) → Sat c own w → c0.le c → Goes c0 own w0 c own w → a.defers = [] → a.tmps.size = env.length →
        (∀ (t : Nat) u, a.tmps[t]? = some u → Rel c (curF (gs.map GOp.blank) svs 0 (fun i => listed.getD i false) t (geti env t)) u) → (∃ β, BoxOk w0.heap.size gs svs (fun i => listed.getD i false) c own a w β) → Q .normal a w := by
      intro listed a w c hsz hall hS hle hg hd hts hrel hβ
      obtain ⟨β, hβ, hinj⟩ := hβ
      have hallg : ∀ (k : Nat) g, gs[k]? = some g → listed.getD k false = true := fun k g hg => hall k (by
        have := (List.getElem?_eq_some_iff.1 hg).1; omega)
      have hE : EnvOk c fin a := ⟨by rw [hts, hfinl], fun t s u hs hu => by
        have ht : t < env.length := by rw [← hts]; exact (Array.getElem?_eq_some_iff.1 hu).1
        have e1 : geti fin t = s := by rw [geti_eq, hs]; rfl
        rw [← e1, hfin t ht]
        have := hrel t u hu
        rwa [curF_congr (L' := fun _ => true) (gs.map GOp.blank) svs 0 _ (fun i g hi _ => by
          obtain ⟨g', hg', _⟩ := hbl i g hi
          exact hallg _ g' (by rw [Nat.zero_add]; exact hg'))] at this⟩
      obtain ⟨c', env', own', k1, k2, k3, k4, k5, k6⟩ := box_end (base := w0.heap.size) hbox (a := a) (w := w) (β := β) (K := K)
        (fun k k' g g' ty ty' z z' h1 h2 h3 h4 h5 => hinj k k' g g' ty ty' z z' h1 h2 h3 h4 (hallg k g h1) (hallg k' g' h2) h5) gs 0 (fun i => by rw [Nat.zero_add]) hS hE
        (fun k g ty z d _ hg ho hd' => by
          obtain ⟨h1, h2, _, h4, h5, us, h6, h7, h8, h9⟩ := hβ k g ty z d hg ho hd' (hallg k g hg)
          refine ⟨h1, h2, h4, h5, us, h6, fun cs hcs => ?_⟩
          unfold boxS at hcs
          split at hcs
          · rename_i hno
            cases hcs
            exact h8 fun j gj sz v hgj hoj => absurd hoj (storeTo_none hno j gj sz v hgj)
          · rename_i sz v hst
            split at hcs
            · cases hcs
              obtain ⟨j, gj, hgj, hoj⟩ := storeTo_mem hst
              obtain ⟨sv, hsv, _, _, _, _, hfs⟩ := hsto j gj sz d v hgj hoj
              rw [← hfs]
              exact h9 j gj sz v sv hgj hoj (hallg j gj hgj) hsv
            · cases hcs) hK
      refine hQ a w ⟨hd, c', env', own', k2, k1, fun r hr => (k3.t r (by have := hle.n; omega)).trans (hle.t r (by omega)), Nat.le_trans hn (Nat.le_trans hle.n k3.n), ⟨hg.os, hg.tape, hg.output, hg.size, hg.keep, fun b hb => by rw [k4] at hb; exact hg.newF b hb, fun b hb => ?_, fun b o hb => k3.f b o (hg.f b o hb)⟩, k6⟩
      rcases k5 b hb with hb | hb
      · exact hg.newO b hb
      · exact .inr hb
    have lst : ∀ (listed : Array Bool), listed.size = ops.size → Region.ready .any ops listed = [] → ∀ i, i < ops.size → listed.getD i false = true := by
      intro listed hsz hr i
      induction i using Nat.strongRecOn with
      | _ i ih =>
        intro hi
        have ho : ops[i]? = some ops[i] := by simp [hi]
        obtain ⟨g, hg, _⟩ := hget i ops[i] (by simp [hi])
        by_cases hl : listed.getD i false = true
        · exact hl
        · exfalso
          have hm2 : i ∈ Region.ready .any ops listed := by
            refine mem_ready.2 ⟨?_, ops[i], ho, fun e he hb => ?_⟩
            · have hil : i < listed.size := by omega
              simp [hil] at hl ⊢; exact hl
            · have h1 := (hc i _ g ho hg).1 e he hb
              exact ih e.on h1 (by omega)
          rw [hr] at hm2; cases hm2
    intro fuel
    induction fuel with
    | zero =>
      intro listed a w c hsz hcnt hdown hS hle hg hd hts hrel hβ
      have hall : ∀ i, i < ops.size → listed.getD i false = true := fun i hi => by
        have hil : i < listed.size := by omega
        by_cases hl : listed[i] = true
        · simp [hil, hl]
        · exfalso
          have hf : listed[i] = false := by simpa using hl
          have := count_set listed.toList i (by simp [hil, hf])
          omega
      refine ⟨?_, done listed a w c hsz hall hS hle hg hd hts hrel hβ⟩
      cases hr : Region.ready .any ops listed with
      | nil => rfl
      | cons i r =>
        have : i ∈ Region.ready .any ops listed := by rw [hr]; simp
        obtain ⟨h1, o, ho, _⟩ := mem_ready.1 this
        have hi : i < ops.size := (Array.getElem?_eq_some_iff.1 ho).1
        have h2 := hall i hi
        have hil : i < listed.size := by omega
        simp [hil] at h1 h2; rw [h1] at h2; cases h2
    | succ fuel ih =>
      intro listed a w c hsz hcnt hdown hS hle hg hd hts hrel hβ
      refine ⟨fun hr => done listed a w c hsz (lst listed hsz hr) hS hle hg hd hts hrel hβ, fun i hi => ?_⟩
      obtain ⟨hun, o, ho, hpre⟩ := mem_ready.1 hi
      have hi' : i < ops.size := (Array.getElem?_eq_some_iff.1 ho).1
      have hil : i < listed.size := by omega
      have hunl : listed[i]? = some false := by simp [hil] at hun; simp [hil, hun]
      have hunf : listed.getD i false = false := by simp [hil] at hun; simp [hil, hun]
      obtain ⟨g, hgi, hcg⟩ := hget i o (by simpa using ho)
      obtain ⟨envk, sv, hsv, hkl, hstep, hek⟩ := hat i g.blank (hbl2 i g hgi)
      obtain ⟨β, hβ⟩ := hβ
      have hbd := blank_dst hbox hgi
      obtain ⟨_, hord⟩ := hc i o g ho hgi
      -- a slot that it looks at holds what the text's order says
      have hlook : ∀ t, t ∈ g.looks ∨ g.dst = some t → ∀ j gj', (gs.map GOp.blank)[j]? = some gj' → gj'.dst = some t → listed.getD j false = decide (j < i) := by
        intro t ht j gj' hj hdj
        obtain ⟨gj, hj, _, hdj'⟩ := hbl j gj' hj
        rw [hdj'] at hdj
        by_cases hji : j = i
        · subst hji; rw [hunf]; simp
        · have hjs : j < ops.size := by have := (List.getElem?_eq_some_iff.1 hj).1; omega
          have hoj : ops[j]? = some ops[j] := by simp [hjs]
          obtain ⟨h1, h2⟩ := hord j ops[j] gj t hji hoj hj hdj ht
          rcases Nat.lt_or_gt_of_ne hji with hlt | hgt
          · obtain ⟨e, he, hb, heq⟩ := edge_mem (h1 hlt)
            have := hpre e he hb
            rw [heq] at this
            rw [this]; simp [hlt]
          · by_cases hl : listed.getD j false = true
            · exfalso
              obtain ⟨e, he, hb, heq⟩ := edge_mem (h2 hgt)
              have := hdown j ops[j] hl hoj e he hb
              rw [heq, hunf] at this; cases this
            · have : listed.getD j false = false := by simpa using hl
              rw [this]; simp; omega
      have hslot : ∀ t u, t ∈ g.looks → a.tmps[t]? = some u → Rel c (geti envk t) u := by
        intro t u ht hu
        have htl : t < env.length := by rw [← hts]; exact (Array.getElem?_eq_some_iff.1 hu).1
        rw [hek t htl]
        have := hrel t u hu
        rwa [curF_congr (L' := fun j => decide (j < i)) (gs.map GOp.blank) svs 0 _ (fun j gj hj hdj => by rw [Nat.zero_add]; exact hlook t (.inl ht) j gj hj hdj)] at this
      -- the frame cut down to what it looks at
      let envR := (List.range env.length).map fun t => if t ∈ g.looks then geti envk t else .top
      have hRlen : envR.length = env.length := by simp [envR]
      have hRget : ∀ t, t ∈ g.looks → geti envR t = geti envk t := fun t ht => by
        rw [geti_eq, geti_eq]
        by_cases htl : t < env.length
        · have : envR[t]? = some (geti envk t) := by simp [envR, htl, ht]
          rw [this, geti_eq]; rfl
        · have h1 : envR[t]? = none := by rw [List.getElem?_eq_none_iff]; omega
          have h2 : envk[t]? = none := by rw [List.getElem?_eq_none_iff]; omega
          rw [h1, h2]
      have hER : EnvOk c envR a := ⟨by rw [hts, hRlen], fun t s u hs hu => by
        have htl : t < env.length := by rw [← hts]; exact (Array.getElem?_eq_some_iff.1 hu).1
        simp only [envR, List.getElem?_map, List.getElem?_range htl, Option.map_some, Option.some.injEq] at hs
        subst hs
        split
        · rename_i ht; exact hslot t u ht hu
        · exact .top u⟩
      have hagree : ∀ x ∈ g.op.ops, evn own envk x = evn own envR x := fun x hx => by
        cases x with
        | tmp t =>
          have : t ∈ g.looks := by simp only [GOp.looks, List.mem_append]; exact .inl (mem_tmpsOf.2 hx)
          simp only [evn, ev, hRget t this]
        | _ => rfl
      have hcount : (listed.setIfInBounds i true).toList.countP (! ·) ≤ fuel := by
        have := count_set listed.toList i (by simpa using hunl)
        rw [Array.toList_setIfInBounds]; omega
      have hLset : ∀ j, (listed.setIfInBounds i true).getD j false = if j = i then true else listed.getD j false := fun j => by
        by_cases hji : j = i
        · subst hji; simp [hil]
        · by_cases hjl : j < listed.size
          · simp [hjl, hji, Ne.symm hji]
          · simp [hjl, hji]
      have hdown' : ∀ (j : Nat) o', (listed.setIfInBounds i true).getD j false = true → ops[j]? = some o' → ∀ e ∈ o'.after, Region.binds .any e = true → (listed.setIfInBounds i true).getD e.on false = true := by
        intro j o' hj hoj e he hb
        rw [hLset] at hj ⊢
        split
        · rfl
        · split at hj
          · rename_i hji; subst hji; rw [ho] at hoj; cases hoj; exact hpre e he hb
          · exact hdown j o' hj hoj e he hb
      have hfun : (fun j => (listed.setIfInBounds i true).getD j false) = fun j => if j = i then true else listed.getD j false := funext hLset
      have hnext : ∀ (a' : Act) (w' : World) (c' : Cx) (u : Value), a' = a.put g.dst u → Rel c' sv u ∨ g.dst = none → Sat c' own w' → c.le c' → Goes c0 own w0 c' own w' → (∃ β, BoxOk w0.heap.size gs svs (fun j => if j = i then true else listed.getD j false) c' own a' w' β) → wpAny P .any ops Q fuel (listed.setIfInBounds i true) a' w' := by
        intro a' w' c' u ha hr hS' hle' hg' hβ'
        subst ha
        refine ih _ _ w' c' (by simp [hsz]) hcount hdown' hS' (hle.trans hle') hg' (by rw [put_defers]; exact hd) (by cases g.dst <;> simp [Act.put, hts]) ?_ (by rw [hfun]; exact hβ')
        intro t v hv
        rw [hfun]
        by_cases hdt : g.dst = some t
        · -- its own slot
          have hvu : v = u := by
            rw [hdt] at hv
            simp only [Act.put, Array.getElem?_setIfInBounds, if_true] at hv
            split at hv
            · cases hv; rfl
            · cases hv
          subst hvu
          rw [curF_last (gs.map GOp.blank) svs 0 _ i g.blank sv (hbl2 i g hgi) hsv (hbd.trans hdt) (by simp) (fun j gj hij hj hdj => by
            rw [Nat.zero_add, if_neg (by omega), hlook t (.inr hdt) j gj hj hdj]; simp; omega)]
          rcases hr with hr | hr
          · exact hr
          · rw [hdt] at hr; cases hr
        · have hv' : a.tmps[t]? = some v := by rwa [put_tmps hdt] at hv
          rw [curF_congr (L' := fun j => listed.getD j false) (gs.map GOp.blank) svs 0 _ (fun j gj hj hdj => by
            rw [Nat.zero_add, if_neg (fun e => by subst e; rw [hbl2 j g hgi] at hj; cases hj; exact hdt (hbd.symm.trans hdj))])]
          exact (hrel t v hv').mono hle'
      unfold wpOp
      rw [ho]
      show if Region.wanted o (yielded ops a.tmps) = true then _ else _
      by_cases hib : g.isBox = true
      · -- a variable is laid, or set
        have hgn : g.guard = none := by
          unfold GOp.isBox at hib
          split at hib
          · rename_i ty z hop; exact (boxChk_alloc hbox hgi hop).1
          · rename_i sz x v hop; exact (boxChk_store hbox hgi hop).1
          · cases hib
        obtain ⟨hco, hdst, hcase⟩ := guard_sound hcg hER (A := fun _ => True) (B := fun _ => False) (by unfold GuardN; rw [hgn]; trivial)
        have hw : Region.wanted o (yielded ops a.tmps) = true := by
          rcases hcase with ⟨hw, _⟩ | ⟨_, _, _, hB⟩
          · exact hw
          · exact hB.elim
        rw [if_pos hw]
        refine .inl ?_
        unfold GOp.isBox at hib
        split at hib
        · -- laid
          rename_i ty z hop
          obtain ⟨_, hfl, hone, d, hdd, hdn, hun⟩ := boxChk_alloc hbox hgi hop
          rw [hop] at hco
          obtain ⟨hoo, hz⟩ := compOp_alloc hco
          · refine wp_sem (s := Instr.alloc ty true (.tuple #[])) (u := .pointer (some ⟨w.heap.size, 0, none⟩)) (w' := w.alloc (.cells z.cells ty)) (by simp only [execOp, hoo]) ?_ ?_
            · simp only [Instr.alloc, Sem.run_bind, run_zeroB hz, Result.andThen_ok, newVar, newRow, run_newObj, Sem.run_pure, World.alloc_eq]
            · have hsvt : sv = .top := by
                have hbk : g.blank = ⟨g.dst, .mv (.global 0), none⟩ := by simp only [GOp.blank, hop]
                rw [hbk] at hstep
                exact (show evn own envk (.global 0) = sv from hstep).symm
              refine hnext _ _ c (.pointer (some ⟨w.heap.size, 0, none⟩)) (by rw [hdst]) (.inl (by rw [hsvt]; exact .top _)) ?_ (.refl c) (hg.trans ⟨rfl, rfl, rfl, by simp, fun b hb _ => Below.heap_alloc w _ b hb, fun _ hb => .inl hb, fun _ hb => .inl hb, fun _ _ hb => hb⟩) ?_
              · exact hS.on (.refl c) rfl hS.one (fun b hb => Below.heap_alloc w _ b hb) (fun b x hb => by rw [Below.heap_alloc w _ b (hS.F_lt hb)]; exact hS.le b x hb) (fun b hb => .inl hb)
              · rw [hdst, hdd]
                refine ⟨_, hβ.alloc hbox hS hgi hop hdd (by rw [hts]; exact hdn) hg.size hunf fun j gj sz v hgj hoj => ?_⟩
                -- it is not set before it is laid
                by_cases hl : listed.getD j false = true
                · exfalso
                  have hjs : j < ops.size := by have := (List.getElem?_eq_some_iff.1 hgj).1; omega
                  have hoj' : ops[j]? = some ops[j] := by simp [hjs]
                  obtain ⟨_, hord2⟩ := hc j ops[j] gj hoj' hgj
                  have hij : i ≠ j := fun e => by subst e; rw [hgi] at hgj; cases hgj; rw [hop] at hoj; cases hoj
                  have hlk : d ∈ gj.looks := by simp only [GOp.looks, List.mem_append, hoj, DOp.ops]; exact .inl (mem_tmpsOf.2 (by simp))
                  obtain ⟨e1, e2⟩ := hord2 i o g d hij ho hgi hdd (.inl hlk)
                  rcases Nat.lt_or_gt_of_ne hij with hlt | hgt
                  · obtain ⟨e, he, hb, heq⟩ := edge_mem (e1 hlt)
                    have := hdown j ops[j] hl hoj' e he hb
                    rw [heq, hunf] at this; cases this
                  · obtain ⟨_, _, d', k, gk, ty', z', hx, hkj, hgk, hdk, _⟩ := boxChk_store hbox hgj hoj
                    cases hx
                    exact hun k gk (by omega) hgk hdk
                · simpa using hl
        · -- set
          rename_i sz x v hop
          obtain ⟨_, hdn, d, k, gk, ty, z, rfl, hki, hgk, hdk, hok, hone, hv⟩ := boxChk_store hbox hgi hop
          obtain ⟨sv', hsv', hfl, hlen, hall1, hzl, hfs⟩ := hsto i g sz d v hgi hop
          rw [hsv] at hsv'; cases hsv'
          have hks : k < ops.size := by have := (List.getElem?_eq_some_iff.1 hgk).1; omega
          have hok' : ops[k]? = some ops[k] := by simp [hks]
          have hlk : d ∈ g.looks := by simp only [GOp.looks, List.mem_append, hop, DOp.ops]; exact .inl (mem_tmpsOf.2 (by simp))
          have hLk : listed.getD k false = true := by
            obtain ⟨e1, _⟩ := hord k ops[k] gk d (by omega) hok' hgk hdk (.inl hlk)
            obtain ⟨e, he, hb, heq⟩ := edge_mem (e1 hki)
            have := hpre e he hb
            rwa [heq] at this
          obtain ⟨h1, h2, h3, h4, h5, us, h6, h7, _, _⟩ := hβ.1 k gk ty z d hgk hok hdk hLk
          have hsvr : evn own envR v = sv := by
            have hbk : g.blank = ⟨none, .mv v, none⟩ := by simp only [GOp.blank, hop]
            rw [hbk] at hstep
            have := (show evn own envk v = sv from hstep)
            rw [← hagree v (by rw [hop]; simp [DOp.ops])]; exact this
          have hrv : Rel c sv (a.eval v) := by rw [← hsvr]; exact nrm_rel hS (ev_rel hER v)
          have hcr : CRel c (a.eval v).cells sv.cells := .of hS hrv hfl hall1
          rw [hop] at hco
          obtain ⟨t, hoo, hs⟩ := compOp_store hco
          · have hone' : ∀ y ∈ (a.eval v).cells.toList, y.oneCell' = true := all_one hS (cells_rel hS.one hrv hfl) hall1
            have hzl' := hzl k gk ty z hgk hok hdk
            have hrun := store_run (P := P) (w := w) (b := β k) (ty := ty) (cur := us) (y := a.eval v) hs h6 (by rw [hcr.1, hlen]) (by rw [h7, hzl']) hone'
            have hea : a.eval (.tmp d) = .pointer (some ⟨β k, 0, none⟩) := by
              show a.tmps.getD d undef = _
              rw [Array.getD_eq_getD_getElem?, h1]; rfl
            refine wp_skp (w' := w.setRow (β k) (a.eval v).cells) ?_ ?_
            · simp only [execOp, hoo, Sem.run_bind, hea, hrun, Result.andThen_ok, Sem.run_pure]
            · have hoth : ∀ j, j ≠ β k → (w.setRow (β k) (a.eval v).cells).heap[j]? = w.heap[j]? := fun j hj => setRow_other w (β k) j _ hj
              refine hnext _ _ c undef (by rw [hdst]) (.inr hdn) (hS.touch hoth h4 h5) (.refl c) ⟨hg.os, hg.tape, hg.output, by simpa using hg.size, fun b hb hnO => ?_, hg.newF, hg.newO, hg.f⟩ ?_
              · rw [hoth b (by omega)]; exact hg.keep b hb hnO
              · rw [hdst, hdn]
                exact ⟨β, hβ.store hbox hgi hop hgk hok hdk hLk (by simp) hoth (setRow_heap w (β k) us _ ty _ h6) (by rw [hcr.1, hlen, hzl']) hsv hcr⟩
        · cases hib
      · have hib : g.isBox = false := by simpa using hib
        have hbe : g.blank = g := blank_self hib
        rw [hbe] at hstep
        have hgd : GuardN g.guard envR (fun _ => fnN P g.op envR own (· = sv)) (fun _ => sv = .tup []) := by
          unfold StepY at hstep
          unfold GuardN at hstep ⊢
          split
          · rename_i hgn; simp only [hgn] at hstep; exact (fnN_agree hagree).1 hstep
          · rename_i s want hgs
            simp only [hgs] at hstep
            have hs : s ∈ g.looks := by simp only [GOp.looks, List.mem_append, hgs]; exact .inr (by simp)
            rw [hRget s hs]
            split at hstep
            · rename_i b hb; simp only []; exact ⟨fun e => (fnN_agree hagree).1 (hstep.1 e), hstep.2⟩
            · rename_i hb; simp only []; exact hstep
            · exact hstep.elim
        obtain ⟨hco, hdst, hcase⟩ := guard_sound hcg hER hgd
        rcases hcase with ⟨hw, _, _, hA⟩ | ⟨hw, _, _, hB⟩
        · rw [if_pos hw]
          refine .inl (Oper.wp_mono (fun a' w' hfin => ?_) (fn_wp hco hER hS hA))
          obtain ⟨c', sv', own', u, ha, k1, k2, k3, k4, rfl, rfl⟩ := hfin
          rw [hdst] at ha
          subst ha
          exact hnext _ w' c' u rfl (.inl k1) k2 k3 (hg.trans k4) ⟨β, hβ.pure hbox hgi hib k3 k4⟩
        · rw [if_neg (by rw [hw]; simp)]
          subst hB
          rw [hdst]
          exact hnext _ w c undef rfl (.inl (.tup rfl (fun i s u hs => by simp at hs))) hS (.refl c) hg ⟨β, hβ.pure hbox hgi hib (.refl c) (.refl c own w)⟩
  have hrep : ∀ j, (Array.replicate ops.size false).getD j false = false := fun j => by
    rw [Array.getD_eq_getD_getElem?, Array.getElem?_replicate]; split <;> rfl
  refine main ops.size (Array.replicate ops.size false) a0 { w0 with drawn := w0.drawn + 1 } c0 (by simp) ?_ ?_ (hS0.drew rfl) (.refl c0) (.drew rfl rfl rfl rfl) hd0 hE0.size ?_ ⟨fun _ => 0, fun k g ty z d _ _ _ hL => ?_, fun k k' g g' ty ty' z z' _ _ _ _ hL => ?_⟩
  · simp [Array.toList_replicate, List.countP_replicate]
  · intro i o hl _
    rw [hrep] at hl; cases hl
  · intro t u hu
    have htl : t < env.length := by rw [← hE0.size]; exact (Array.getElem?_eq_some_iff.1 hu).1
    rw [curF_none _ _ _ _ (fun i g _ _ => hrep _)]
    exact hE0.rel t _ u (by rw [geti_eq]; simp [htl]) hu
  · simp only [hrep] at hL; cases hL
  · simp only [hrep] at hL; cases hL

end
end Go.SX
