/- Parts of the proof. -/
import Derived.Test.YtllbabjgpdmblaaDoorZTdR5
import Derived.Test.YtllbabjgpdmblaaDoorZTd9d
import Derived.Test.YtllbabjgpdmblaaDoorZTd22
set_option linter.unusedSimpArgs false
set_option linter.unusedVariables false
set_option linter.unusedSectionVars false
namespace Go.SX.Td
open Go Go.SX Tb
theorem kidx_at : ∀ {C : List Int} {lo hi : Int} {k : Nat} {c : Int}, Asc lo hi C → C[k]? = some c → kidx C c = k + 1
 | [], _, _, k, c, _, h => by simp at h
 | d :: C, lo, hi, 0, c, h, hc => by
  simp at hc; subst hc
  simp only [kidx, Int.le_refl, if_true]
  rw [kidx_lo C d hi d h.2.2 (Int.le_refl _)]
 | d :: C, lo, hi, k + 1, c, h, hc => by
  have hc' : C[k]? = some c := by simpa using hc
  have := (asc_gt h.2.2 c (List.mem_of_getElem? hc')).1
  simp only [kidx]
  rw [if_pos (by omega), kidx_at h.2.2 hc']
theorem loop_while {step : Int → Option (Int ⊕ Int)} (C : List Int) (v : Int)
  (hs : ∀ k : Nat, k < C.length → (step k = some (.inl ((k + 1 : Nat) : Int)) ∧ ∃ x, C[k]? = some x ∧ x ≤ v) ∨ (step k = some (.inr (k : Int)) ∧ ∃ x, C[k]? = some x ∧ ¬ x ≤ v))
  (he : step C.length = some (.inr (C.length : Int))) : ∃ r, whileG step 0 = some r ∧ r = ((kidx C v : Nat) : Int) := by
 obtain ⟨r, h1, h2⟩ := loop_up (step := step) (fun (_ : Unit) i => i) C.length
  (fun k _ => kidx C v = k + kidx (C.drop k) v) (fun r => r = ((kidx C v : Nat) : Int)) (fun k s hk hI => by
  rw [List.drop_eq_getElem_cons hk] at hI
  simp only [kidx] at hI
  have hx : C[k]? = some C[k] := by simp [hk]
  rcases hs k hk with ⟨h1, x, h2, h3⟩ | ⟨h1, x, h2, h3⟩
  ·rw [hx] at h2; rw [Option.some.inj h2] at hI
   rw [if_pos h3] at hI
   exact .inl ⟨(), h1, by omega⟩
  ·rw [hx] at h2; rw [Option.some.inj h2] at hI
   rw [if_neg h3] at hI
   exact .inr ⟨_, h1, by rw [hI]; rfl⟩) (fun s hI => by
  rw [List.drop_length] at hI
  simp only [kidx] at hI
  exact ⟨_, he, by rw [hI]; rfl⟩) () (by simp)
 exact ⟨r, h1, h2⟩
theorem find_loop (n : Nd) (f : A10 Int) (ha : n.attr < 10) (hC : n.cuts.length ≤ 100000) : whileG (law14_TableAsked_l26 (encN n) f) 0 = some ((kidx n.cuts (f.get n.attr) : Nat) : Int) := by
 have hat : (encN n).Attr = (n.attr : Int) := rfl
 have hcu : (encN n).Cuts = n.cuts := rfl
 obtain ⟨r, h1, rfl⟩ := loop_while (step := law14_TableAsked_l26 (encN n) f) n.cuts (f.get n.attr) (fun k hk => by
  have hx : n.cuts[k]? = some n.cuts[k] := by simp [hk]
  generalize n.cuts[k] = x at hx
  have hlt : (k : Int) < n.cuts.length := by omega
  simp only [law14_TableAsked_l26, io_lt, io_len, hcu, hlt, decide_true, cond_true, idxG_some hx, hat, pixG_some ha, Option.bind_some, io_le, io_add, wr_up (k := k) (by omega)]
  by_cases h : x ≤ f.get n.attr
  ·exact .inl ⟨by rw [decide_eq_true h]; rfl, x, hx, h⟩
  ·exact .inr ⟨by rw [decide_eq_false h]; rfl, x, hx, h⟩) (by
  have hlt : ¬ ((n.cuts.length : Int) < n.cuts.length) := by omega
  simp only [law14_TableAsked_l26, io_lt, io_len, hcu, hlt, decide_false, cond_false, Option.bind_some])
 exact h1
theorem asked_loop {t : Tab Decision} (h : t.Ok limL) (hb : ∀ n ∈ t.ns, Bd n) (f : A10 Int) (v3 : Table × Int) (hv : v3.1 = tabE t) (hN : t.ns.length ≤ 20000) : ∀ (n x i : Nat) (g : A10 Int), x < t.ns.length → 10 < n + lev (t.nd x) → i ≤ lev (t.nd x) →
  ∃ g', whileG (law14_TableAsked_l22 v3 f) (g, (x : Int), (i : Int)) = some (.inl g') ∧ (∀ b, b < 10 → b < lev (t.nd x) → g'.get b = g.get b) ∧ t.valN (toF g') n x = t.valN (toF f) n x
 | 0, x, i, g, hx, hl, _ => by have := lev_le h hx; omega
 | n + 1, x, i, g, hx, hl, hi => by
  have hmem : t.nd x ∈ t.ns := by unfold Tab.nd; rw [List.getD_eq_getElem?_getD, List.getElem?_eq_getElem hx]; exact List.getElem_mem _
  have hbx := hb _ hmem
  have hkl : ((encN (t.nd x)).Kids.length : Int) = ((t.nd x).kids.length : Nat) := by simp [encN, ints_len]
  have hnl : (tabE t).Nodes.length = t.ns.length := by simp [tabE]
  have hg : idxG (tabE t).Nodes (x : Int) = some (encN (t.nd x)) := idxG_some (encs_get hx)
  have hle := lev_le h hx
  have h1 : (i : Int) ≤ 10 := by omega
  have h2 : (0 : Int) ≤ (x : Int) := by omega
  have h3 : (x : Int) < ((t.ns.length : Nat) : Int) := by omega
  by_cases hk : (t.nd x).kids = []
  ·have h0 : ¬ ((0 : Int) < ((t.nd x).kids.length : Nat)) := by rw [hk]; simp
   refine ⟨g, ?_, fun _ _ _ => rfl, by simp only [Tab.valN, if_pos hk]⟩
   rw [whileG_eq]
   simp only [law14_TableAsked_l22, hv, io_le, io_lt, io_len, hnl, decide_eq_true h1, decide_eq_true h2, decide_eq_true h3, cond_true, hg, Option.bind_some, hkl, decide_eq_false h0, cond_false]
  ·obtain ⟨k1, k2⟩ := kid_mem h hx hk (toF f (t.nd x).attr)
   obtain ⟨f1, f2, f3, f4, f5⟩ := (h.fine x hx).inner hk
   have hlev : lev (t.nd x) = (t.nd x).attr := by unfold lev; rw [if_neg hk]
   rw [toF_get f f1] at k1 k2
   have hkx := kidx_le (t.nd x).cuts (f.get (t.nd x).attr)
   generalize hki : kidx (t.nd x).cuts (f.get (t.nd x).attr) = k at k1 k2 hkx
   obtain ⟨l1, l2⟩ := kid_lev h hx _ k2
   generalize hz : (t.nd x).kids.getD k 0 = z at k1 k2 l1 l2
   have hput : ∃ g1 : A10 Int, (∀ b, b < 10 → b ≠ (t.nd x).attr → g1.get b = g.get b) ∧ kidx (t.nd x).cuts (g1.get (t.nd x).attr) = k ∧
     (Option.bind (Option.bind (pixG 10 ((t.nd x).attr : Int)) fun i19 => some (g.put i19 (f.get i19))) fun g18 => Option.bind (bif decide ((0 : Int) < (k : Int)) then (Option.bind (idxG (t.nd x).cuts (io.ar .sub .i64 (k : Int) 1)) fun x21 => Option.bind (pixG 10 ((t.nd x).attr : Int)) fun i22 => some (g18.put i22 x21)) else some g18) fun g20 => some g20) = some g1 := by
    rw [pixG_some f1]
    simp only [Option.bind_some]
    by_cases hk0 : k = 0
    ·subst hk0
     refine ⟨_, fun b hb hne => ?_, ?_, by simp; rfl⟩
     ·rw [put_get _ f1 _ _ hb, if_neg hne]
     ·rw [put_get _ f1 _ _ f1, if_pos rfl]; exact hki
    ·have hk0' : (0 : Int) < (k : Int) := by omega
     have hsub : io.ar .sub .i64 (k : Int) 1 = ((k - 1 : Nat) : Int) := by rw [io_subi, wr64 (by omega) (by have := hbx.cuts; omega)]; omega
     have hc : (t.nd x).cuts[k - 1]? = some ((t.nd x).cuts[k - 1]'(by omega)) := by rw [List.getElem?_eq_getElem]
     generalize (t.nd x).cuts[k - 1]'(by omega) = c at hc
     refine ⟨(g.put (t.nd x).attr (f.get (t.nd x).attr)).put (t.nd x).attr c, fun b hb hne => ?_, ?_, ?_⟩
     ·rw [put_get _ f1 _ _ hb, if_neg hne, put_get _ f1 _ _ hb, if_neg hne]
     ·rw [put_get _ f1 _ _ f1, if_pos rfl, kidx_at f5 hc]; omega
     ·rw [decide_eq_true hk0', cond_true, hsub, idxG_some hc]; rfl
   obtain ⟨g1, p1, p2, p3⟩ := hput
   obtain ⟨g', q1, q2, q3⟩ := asked_loop h hb f v3 hv hN n z (i + 1) g1 l1 (by omega) (by omega)
   have hga : g'.get (t.nd x).attr = g1.get (t.nd x).attr := q2 _ f1 (by omega)
   refine ⟨g', ?_, fun b hb10 hb => ?_, ?_⟩
   ·rw [whileG_eq]
    have h0 : (0 : Int) < ((t.nd x).kids.length : Nat) := by
     have : (t.nd x).kids.length ≠ 0 := by simpa using hk
     omega
    have hge : ¬ (((t.nd x).kids.length : Nat) : Int) ≤ (k : Int) := by omega
    have hgk : idxG (encN (t.nd x)).Kids (k : Int) = some (z : Int) := idxG_some (ints_get k1)
    have hloop := find_loop (t.nd x) f f1 hbx.cuts
    rw [hki] at hloop
    have hat : (encN (t.nd x)).Attr = ((t.nd x).attr : Int) := rfl
    have hcu : (encN (t.nd x)).Cuts = (t.nd x).cuts := rfl
    simp only [law14_TableAsked_l22, hv, io_le, io_lt, io_len, hnl, decide_eq_true h1, decide_eq_true h2, decide_eq_true h3, cond_true, hg, Option.bind_some, hkl, decide_eq_true h0, hloop, decide_eq_false hge, cond_false, hat, hcu, hgk, io_add, wr_up (k := i) (by omega)]
    simp only [pixG_some f1, Option.bind_some] at p3 ⊢
    rw [← q1]
    generalize hm : (bif decide ((0 : Int) < (k : Int)) then (Option.bind (idxG (t.nd x).cuts (io.ar .sub .i64 (k : Int) 1)) fun x21 => some ((g.put (t.nd x).attr (f.get (t.nd x).attr)).put (t.nd x).attr x21)) else some (g.put (t.nd x).attr (f.get (t.nd x).attr))) = m at p3 ⊢
    cases m with
    | none => cases p3
    | some g2 =>
     simp only [Option.bind_some, Option.some.injEq] at p3
     subst p3
     rfl
   ·rw [q2 b hb10 (by omega)]
    exact p1 b hb10 (by omega)
   ·simp only [Tab.valN, if_neg hk]
    rw [toF_get g' f1, hga, p2, toF_get f f1, hki, hz]
    exact q3
theorem TableAsked_eq {p : Policy} (hp : LenP p) (f g : A10 Int) : law14_TableAsked_g p f g = some true := by
 obtain ⟨b, hb, hfew⟩ := Few_eq hp
 unfold law14_TableAsked_g
 simp only [head_eq, Option.bind_some, hb]
 cases b with
 | false => simp only [io_not, Bool.not_false, cond_true]
 | true =>
  simp only [io_not, Bool.not_true, cond_false]
  cases hv : validB p with
  | false => simp only [Build_bad hv, Option.bind_some, io_eqi]; rfl
  | true =>
   have G := PG_few hv (few_zones hv (hfew rfl))
   obtain ⟨n1, -⟩ := builtT_len G
   have c := (builtT_ok p).1
   obtain ⟨g', q1, -, q3⟩ := asked_loop c.ok (builtT_Bd G) f (tabE (builtT p), 0) rfl n1 11 0 0 g c.pos (by omega) (by omega)
   have q1' : whileG (law14_TableAsked_l22 (tabE (builtT p), 0) f) (g, 0, 0) = some (.inl g') := q1
   simp only [Build_eq G hv, Option.bind_some, io_eqi, decide_true, Bool.not_true, cond_false, cond_true, q1', orR, built_Lookup G, qDecision_eq]
   congr 1
   rw [decide_eq_true_eq]
   exact q3.symm
end Go.SX.Td
namespace Go.SX.Td
open Go Go.SX Tb
theorem kidx_between : ∀ {C : List Int} {lo hi : Int} {k : Nat} {v : Int}, Asc lo hi C → k ≤ C.length → (∀ c, 0 < k → C[k - 1]? = some c → c ≤ v) → (∀ c, C[k]? = some c → v < c) → kidx C v = k
 | [], _, _, k, v, _, hk, _, _ => by simp at hk; subst hk; rfl
 | d :: C, lo, hi, 0, v, _, _, _, h2 => by
  simp only [kidx]
  rw [if_neg (by have := h2 d rfl; omega)]
 | d :: C, lo, hi, k + 1, v, h, hk, h1, h2 => by
  simp only [List.length_cons] at hk
  have hd : d ≤ v := by
   have hg : (d :: C)[k]? = some ((d :: C)[k]'(by simp; omega)) := by rw [List.getElem?_eq_getElem]
   have h3 := h1 _ (by omega) hg
   cases k with
   | zero => exact h3
   | succ k =>
    have hm : (d :: C)[k + 1]'(by simp; omega) ∈ C := by simp
    have := (asc_gt h.2.2 _ hm).1
    omega
  simp only [kidx]
  rw [if_pos hd, kidx_between (k := k) h.2.2 (by omega) (fun c h0 hc => h1 c (by omega) (by
   obtain ⟨j, rfl⟩ : ∃ j, k = j + 1 := ⟨k - 1, by omega⟩
   simpa using hc)) (fun c hc => h2 c (by simpa using hc))]
theorem kidx_mono : ∀ (C : List Int) {v w : Int}, v ≤ w → kidx C v ≤ kidx C w
 | [], _, _, _ => Nat.le_refl _
 | c :: C, v, w, h => by
  simp only [kidx]
  have := kidx_mono C h
  split
  ·rw [if_pos (by omega)]; omega
  ·omega
theorem pick_ok (ch : List Int) (h2 : ∀ x ∈ ch, 0 ≤ x ∧ x ≤ 255) (i m : Nat) (hm : 0 < m) :
  ∃ k : Nat, k < m ∧ (bif decide ((i : Int) < (ch.length : Int)) then (Option.bind (idxG ch (i : Int)) fun x15 => Option.bind (divG (m : Int)) fun _ => some ((IntKind.i64.wrap x15).tmod (m : Int))) else some 0) = some (k : Int) := by
 by_cases h : i < ch.length
 ·have h' : (i : Int) < (ch.length : Int) := by omega
  have hx : ch[i]? = some ch[i] := by simp [h]
  have hb := h2 ch[i] (List.getElem_mem _)
  generalize ch[i] = x at hx hb
  have hd : divG (m : Int) = some () := by unfold divG; rw [if_neg (by omega)]
  refine ⟨(x.tmod m).toNat, ?_, ?_⟩
  ·have h3 := Int.tmod_lt_of_pos x (show (0 : Int) < m by omega)
   have h4 := Int.tmod_nonneg (m : Int) hb.1
   omega
  ·have h4 := Int.tmod_nonneg (m : Int) hb.1
   rw [decide_eq_true h', cond_true, idxG_some hx, Option.bind_some, hd, Option.bind_some, wr64 (by omega) (by omega)]
   congr 1; omega
 ·have h' : ¬ (i : Int) < (ch.length : Int) := by omega
  exact ⟨0, hm, by rw [decide_eq_false h']; rfl⟩
theorem cut_ok {n : Nd} (hf : n.attr < 10) (hasc : Asc (limL.lo n.attr) (limL.hi n.attr) n.cuts) (hc : n.cuts.length ≤ 100000) {k : Nat} (hk : k ≤ n.cuts.length) (z : A10 Range) (hz : z.get n.attr = limZ.get n.attr) :
  ∃ z1 : A10 Range, (∀ b, b < 10 → b ≠ n.attr → z1.get b = z.get b) ∧ limL.lo n.attr ≤ (z1.get n.attr).Lo ∧ (z1.get n.attr).Lo ≤ (z1.get n.attr).Hi ∧ (z1.get n.attr).Hi ≤ limL.hi n.attr ∧
   (∀ v, (z1.get n.attr).Lo ≤ v → v ≤ (z1.get n.attr).Hi → kidx n.cuts v = k) ∧
   (Option.bind (bif decide ((0 : Int) < (k : Int)) then (Option.bind (pixG 10 (n.attr : Int)) fun i17 => Option.bind (idxG n.cuts (io.ar .sub .i64 (k : Int) 1)) fun x18 => some (z.put i17 (Range.mk (io.mm true (z.get i17).Lo x18) (z.get i17).Hi))) else some z) fun z16 =>
    Option.bind (bif decide ((k : Int) < (n.cuts.length : Int)) then (Option.bind (pixG 10 (n.attr : Int)) fun i20 => Option.bind (idxG n.cuts (k : Int)) fun x21 => some (z16.put i20 (Range.mk (z16.get i20).Lo (io.mm false (z16.get i20).Hi (io.ar .sub .i64 x21 1))))) else some z16) fun z19 => some z19) = some z1 := by
 have hlim := lim_get n.attr
 have e1 : (z.get n.attr).Lo = limL.lo n.attr := by rw [hz]; rfl
 have e2 : (z.get n.attr).Hi = limL.hi n.attr := by rw [hz]; rfl
 obtain ⟨z16, a1, a2, a3, a4, a5⟩ : ∃ z16 : A10 Range, (∀ b, b < 10 → b ≠ n.attr → z16.get b = z.get b) ∧ (z16.get n.attr).Hi = limL.hi n.attr ∧ limL.lo n.attr ≤ (z16.get n.attr).Lo ∧
   ((k = 0 ∧ (z16.get n.attr).Lo = limL.lo n.attr) ∨ (0 < k ∧ n.cuts[k - 1]? = some (z16.get n.attr).Lo)) ∧
   (bif decide ((0 : Int) < (k : Int)) then (Option.bind (pixG 10 (n.attr : Int)) fun i17 => Option.bind (idxG n.cuts (io.ar .sub .i64 (k : Int) 1)) fun x18 => some (z.put i17 (Range.mk (io.mm true (z.get i17).Lo x18) (z.get i17).Hi))) else some z) = some z16 := by
  by_cases h0 : k = 0
  ·subst h0
   exact ⟨z, fun _ _ _ => rfl, e2, by omega, .inl ⟨rfl, e1⟩, rfl⟩
  ·have h0' : (0 : Int) < (k : Int) := by omega
   have hsub : io.ar .sub .i64 (k : Int) 1 = ((k - 1 : Nat) : Int) := by rw [io_subi, wr64 (by omega) (by omega)]; omega
   have hc : n.cuts[k - 1]? = some (n.cuts[k - 1]'(by omega)) := by rw [List.getElem?_eq_getElem]
   generalize n.cuts[k - 1]'(by omega) = c at hc
   have hcl := asc_gt hasc c (List.mem_of_getElem? hc)
   have hmax : max (limL.lo n.attr) c = c := by omega
   refine ⟨z.put n.attr ⟨c, limL.hi n.attr⟩, fun b hb hne => by rw [A10.get_put _ _ _ _ hf hb, if_neg hne], by rw [A10.get_put _ _ _ _ hf hf, if_pos rfl], by rw [A10.get_put _ _ _ _ hf hf, if_pos rfl]; show _ ≤ c; omega, .inr ⟨by omega, by rw [A10.get_put _ _ _ _ hf hf, if_pos rfl]; exact hc⟩, ?_⟩
   rw [decide_eq_true h0', cond_true, pixG_some hf, Option.bind_some, hsub, idxG_some hc, Option.bind_some, io_max, e1, e2, hmax]
 rw [a5, Option.bind_some]
 by_cases h1 : k < n.cuts.length
 ·have h1' : (k : Int) < (n.cuts.length : Int) := by omega
  have hc : n.cuts[k]? = some n.cuts[k] := by simp [h1]
  generalize n.cuts[k] = c at hc
  have hcl := asc_gt hasc c (List.mem_of_getElem? hc)
  have hlow : (z16.get n.attr).Lo < c := by
   rcases a4 with ⟨_, a4⟩ | ⟨b1, b2⟩
   ·omega
   ·have e3 := kidx_at hasc b2
    have e4 := kidx_at hasc hc
    refine Classical.byContradiction fun hle => ?_
    have : c ≤ (z16.get n.attr).Lo := by omega
    have e5 := kidx_mono n.cuts this
    omega
  have hwr : IntKind.i64.wrap (c - 1) = c - 1 := wr64 (by omega) (by omega)
  have hmin : min (limL.hi n.attr) (c - 1) = c - 1 := by omega
  refine ⟨z16.put n.attr ⟨(z16.get n.attr).Lo, c - 1⟩, fun b hb hne => by rw [A10.get_put _ _ _ _ hf hb, if_neg hne, a1 b hb hne], ?_⟩
  rw [A10.get_put _ _ _ _ hf hf, if_pos rfl]
  refine ⟨a3, by show (z16.get n.attr).Lo ≤ c - 1; omega, by show c - 1 ≤ limL.hi n.attr; omega, fun v v1 v2 => ?_, ?_⟩
  ·refine kidx_between hasc hk (fun d h0 hd => ?_) (fun d hd => ?_)
   ·rcases a4 with ⟨b1, _⟩ | ⟨_, b2⟩
    ·omega
    ·rw [b2] at hd; rw [← Option.some.inj hd]; exact v1
   ·rw [hc] at hd; rw [← Option.some.inj hd]; have : v ≤ c - 1 := v2; omega
  ·rw [decide_eq_true h1', cond_true, pixG_some hf, Option.bind_some, idxG_some hc, Option.bind_some, io_min, a2, io_subi, hwr, hmin]
   rfl
 ·have h1' : ¬ (k : Int) < (n.cuts.length : Int) := by omega
  have hhi : (z16.get n.attr).Lo ≤ limL.hi n.attr := by
   rcases a4 with ⟨_, a4⟩ | ⟨b1, b2⟩
   ·omega
   ·exact (asc_gt hasc _ (List.mem_of_getElem? b2)).2
  refine ⟨z16, a1, a3, by rw [a2]; exact hhi, by rw [a2]; omega, fun v v1 v2 => ?_, by rw [decide_eq_false h1']; rfl⟩
  refine kidx_between hasc hk (fun d h0 hd => ?_) (fun d hd => ?_)
  ·rcases a4 with ⟨b1, _⟩ | ⟨_, b2⟩
   ·omega
   ·rw [b2] at hd; rw [← Option.some.inj hd]; exact v1
  ·have := (List.getElem?_eq_some_iff.1 hd).1; omega
theorem leaves_loop {t : Tab Decision} (h : t.Ok limL) (hb : ∀ n ∈ t.ns, Bd n) (ch : List Int) (h2 : ∀ x ∈ ch, 0 ≤ x ∧ x ≤ 255) (v4 : Table × Int) (hv : v4.1 = tabE t) (hN : t.ns.length ≤ 20000) : ∀ (n x i : Nat) (z : A10 Range), x < t.ns.length → 10 < n + lev (t.nd x) → i ≤ lev (t.nd x) →
  (∀ b, b < 10 → limL.lo b ≤ (z.get b).Lo ∧ (z.get b).Lo ≤ (z.get b).Hi ∧ (z.get b).Hi ≤ limL.hi b) → (∀ b, b < 10 → lev (t.nd x) ≤ b → z.get b = limZ.get b) →
  ∃ (z' : A10 Range) (y : Nat), whileG (law14_TableLeaves_l2 v4 ch) (z, (x : Int), (i : Int)) = some (.inl (z', (y : Int))) ∧ y < t.ns.length ∧ (t.nd y).kids = [] ∧
   (∀ b, b < 10 → limL.lo b ≤ (z'.get b).Lo ∧ (z'.get b).Lo ≤ (z'.get b).Hi ∧ (z'.get b).Hi ≤ limL.hi b) ∧ (∀ b, b < 10 → b < lev (t.nd x) → z'.get b = z.get b) ∧
   ∀ f : A10 Int, (∀ b, b < 10 → (z'.get b).Lo ≤ f.get b ∧ f.get b ≤ (z'.get b).Hi) → t.valN (toF f) n x = t.ls.getD (t.nd y).leaf default
 | 0, x, i, z, hx, hl, _, _, _ => by have := lev_le h hx; omega
 | n + 1, x, i, z, hx, hl, hi, hz, hzl => by
  have hmem : t.nd x ∈ t.ns := by unfold Tab.nd; rw [List.getD_eq_getElem?_getD, List.getElem?_eq_getElem hx]; exact List.getElem_mem _
  have hbx := hb _ hmem
  have hkl : ((encN (t.nd x)).Kids.length : Int) = ((t.nd x).kids.length : Nat) := by simp [encN, ints_len]
  have hnl : (tabE t).Nodes.length = t.ns.length := by simp [tabE]
  have hg : idxG (tabE t).Nodes (x : Int) = some (encN (t.nd x)) := idxG_some (encs_get hx)
  have hle := lev_le h hx
  have c1 : (i : Int) ≤ 10 := by omega
  have c2 : ¬ (x : Int) < 0 := by omega
  have c3 : ¬ ((t.ns.length : Nat) : Int) ≤ (x : Int) := by omega
  by_cases hk : (t.nd x).kids = []
  ·have h0 : (((t.nd x).kids.length : Nat) : Int) = 0 := by rw [hk]; rfl
   refine ⟨z, x, ?_, hx, hk, hz, fun _ _ _ => rfl, fun f _ => by simp only [Tab.valN, if_pos hk]⟩
   rw [whileG_eq]
   simp only [law14_TableLeaves_l2, hv, io_le, io_lt, io_len, io_eqi, hnl, decide_eq_true c1, decide_eq_false c2, decide_eq_false c3, cond_true, cond_false, Option.bind_some, hg, hkl, decide_eq_true h0]
  ·obtain ⟨f1, f2, f3, f4, f5⟩ := (h.fine x hx).inner hk
   have hlev : lev (t.nd x) = (t.nd x).attr := by unfold lev; rw [if_neg hk]
   have hkpos : 0 < (t.nd x).kids.length := by
    have : (t.nd x).kids.length ≠ 0 := by simpa using hk
    omega
   obtain ⟨k, hkk, hpick⟩ := pick_ok ch h2 i (t.nd x).kids.length hkpos
   obtain ⟨z1, p1, p2, p3, p4, p5, p6⟩ := cut_ok f1 f5 hbx.cuts (show k ≤ (t.nd x).cuts.length by omega) z (hzl _ f1 (by omega))
   have k1 : (t.nd x).kids[k]? = some (t.nd x).kids[k] := by simp [hkk]
   have k2 : (t.nd x).kids[k] ∈ (t.nd x).kids := List.getElem_mem _
   generalize (t.nd x).kids[k] = w at k1 k2
   obtain ⟨l1, l2⟩ := kid_lev h hx w k2
   obtain ⟨z', y, q1, q2, q3, q4, q5, q6⟩ := leaves_loop h hb ch h2 v4 hv hN n w (i + 1) z1 l1 (by omega) (by omega) (fun b hb => by
    by_cases hba : b = (t.nd x).attr
    ·subst hba; exact ⟨p2, p3, p4⟩
    ·rw [p1 b hb hba]; exact hz b hb) (fun b hb hlb => by
    rw [p1 b hb (by omega)]; exact hzl b hb (by omega))
   refine ⟨z', y, ?_, q2, q3, q4, fun b hb hlb => by rw [q5 b hb (by omega), p1 b hb (by omega)], fun f hf => ?_⟩
   ·rw [whileG_eq]
    have h0 : ¬ (((t.nd x).kids.length : Nat) : Int) = 0 := by omega
    have c4 : ¬ (i : Int) = 10 := by omega
    have c5 : ¬ ((t.nd x).attr : Int) < 0 := by omega
    have c6 : ¬ (10 : Int) ≤ ((t.nd x).attr : Int) := by omega
    have hA : IntKind.i64.wrap ((((t.nd x).cuts.length : Nat) : Int) + 1) = (((t.nd x).cuts.length + 1 : Nat) : Int) := by rw [wr_up]; have := hbx.cuts; omega
    have c7 : (((t.nd x).cuts.length + 1 : Nat) : Int) = (((t.nd x).kids.length : Nat) : Int) := by omega
    have hgk : idxG (encN (t.nd x)).Kids (k : Int) = some (w : Int) := idxG_some (ints_get k1)
    have hat : (encN (t.nd x)).Attr = ((t.nd x).attr : Int) := rfl
    have hcu : (encN (t.nd x)).Cuts = (t.nd x).cuts := rfl
    simp only [law14_TableLeaves_l2, hv, io_le, io_lt, io_len, io_eqi, hnl, decide_eq_true c1, decide_eq_false c2, decide_eq_false c3, cond_true, cond_false, Option.bind_some, hg, hkl, decide_eq_false h0, decide_eq_false c4, hat, hcu, decide_eq_false c5, decide_eq_false c6, hA, io_not, decide_eq_true c7, Bool.not_true, io_rem, io_wrap, hpick, hgk, io_add, wr_up (k := i) (by omega)]
    generalize hm : (bif decide ((0 : Int) < (k : Int)) then (Option.bind (pixG 10 ((t.nd x).attr : Int)) fun i17 => Option.bind (idxG (t.nd x).cuts (io.ar .sub .i64 (k : Int) 1)) fun x18 => some (z.put i17 (Range.mk (io.mm true (z.get i17).Lo x18) (z.get i17).Hi))) else some z) = m at p6 ⊢
    cases m with
    | none => cases p6
    | some z16 =>
     simp only [Option.bind_some] at p6 ⊢
     generalize hm2 : (bif decide ((k : Int) < ((t.nd x).cuts.length : Int)) then (Option.bind (pixG 10 ((t.nd x).attr : Int)) fun i20 => Option.bind (idxG (t.nd x).cuts (k : Int)) fun x21 => some (z16.put i20 (Range.mk (z16.get i20).Lo (io.mm false (z16.get i20).Hi (io.ar .sub .i64 x21 1))))) else some z16) = m2 at p6 ⊢
     cases m2 with
     | none => cases p6
     | some z19 =>
      simp only [Option.bind_some, Option.some.injEq] at p6 ⊢
      subst p6
      exact q1
   ·simp only [Tab.valN, if_neg hk]
    have hfa := hf _ f1
    rw [q5 _ f1 (by omega)] at hfa
    rw [toF_get f f1, p5 _ hfa.1 hfa.2, List.getD_eq_getElem?_getD, k1]
    exact q6 f hf
theorem facts_loop (z : A10 Range) (hz : ∀ b, b < 10 → (z.get b).Lo ≤ (z.get b).Hi) (hi : Bool) : ∃ f, whileG (law14_TableLeaves_l4 z hi) (A10.mk 0 0 0 0 0 0 0 0 0 0, 0) = some (.inl f) ∧ ∀ b, b < 10 → (z.get b).Lo ≤ f.get b ∧ f.get b ≤ (z.get b).Hi := by
 obtain ⟨r, h1, f, rfl, h2⟩ := loop_up (step := law14_TableLeaves_l4 z hi) (fun (s : A10 Int) i => (s, i)) 10
  (fun k s => ∀ b, b < k → (z.get b).Lo ≤ s.get b ∧ s.get b ≤ (z.get b).Hi) (fun r => ∃ f, r = .inl f ∧ ∀ b, b < 10 → (z.get b).Lo ≤ f.get b ∧ f.get b ≤ (z.get b).Hi) (fun k s hk hI => by
  have hlt : (k : Int) < 10 := by omega
  have hzk := hz k hk
  have hnot : ¬ (z.get k).Hi < (z.get k).Lo := by omega
  have keep : ∀ (s' : A10 Int), (∀ b, b < 10 → b ≠ k → s'.get b = s.get b) → (z.get k).Lo ≤ s'.get k → s'.get k ≤ (z.get k).Hi → ∀ b, b < k + 1 → (z.get b).Lo ≤ s'.get b ∧ s'.get b ≤ (z.get b).Hi := fun s' h1 h2 h3 b hb => by
   by_cases hbk : b = k
   ·subst hbk; exact ⟨h2, h3⟩
   ·rw [h1 b (by omega) hbk]; exact hI b (by omega)
  refine .inl ?_
  simp only [law14_TableLeaves_l4, io_lt, hlt, decide_true, cond_true, pixG_some hk, Option.bind_some, decide_eq_false hnot, cond_false, io_add, wr_up (k := k) (by omega)]
  cases hi with
  | true =>
   refine ⟨(s.put k (z.get k).Lo).put k (z.get k).Hi, by simp only [cond_true, orR, Option.bind_some, wr_up (k := k) (show k < 9223372036854775807 by omega)], keep _ (fun b hb hne => ?_) ?_ ?_⟩
   ·rw [put_get _ hk _ _ hb, if_neg hne, put_get _ hk _ _ hb, if_neg hne]
   ·rw [put_get _ hk _ _ hk, if_pos rfl]; exact hzk
   ·rw [put_get _ hk _ _ hk, if_pos rfl]; exact Int.le_refl _
  | false =>
   refine ⟨s.put k (z.get k).Lo, by simp only [cond_false, orR, Option.bind_some, wr_up (k := k) (show k < 9223372036854775807 by omega)], keep _ (fun b hb hne => ?_) ?_ ?_⟩
   ·rw [put_get _ hk _ _ hb, if_neg hne]
   ·rw [put_get _ hk _ _ hk, if_pos rfl]; exact Int.le_refl _
   ·rw [put_get _ hk _ _ hk, if_pos rfl]; exact hzk) (fun s hI => by
  exact ⟨.inl s, by simp [law14_TableLeaves_l4, io_lt], s, rfl, hI⟩) (A10.mk 0 0 0 0 0 0 0 0 0 0) (fun b hb => by omega)
 exact ⟨f, h1, h2⟩
theorem TableLeaves_eq {p : Policy} (hp : LenP p) {ch : List Int} (_ : ch.length ≤ 9223372036854775807) (h2 : ∀ x ∈ ch, 0 ≤ x ∧ x ≤ 255) (hi : Bool) : law14_TableLeaves_g p ch hi = some true := by
 obtain ⟨b, hb, hfew⟩ := Few_eq hp
 unfold law14_TableLeaves_g
 simp only [head_eq, Option.bind_some, hb]
 cases b with
 | false => simp only [io_not, Bool.not_false, cond_true, Option.bind_some]
 | true =>
  simp only [io_not, Bool.not_true, cond_false, Option.bind_some]
  by_cases h20 : io.lt 20 (io.len (W eIu8 ch)) = true
  ·rw [h20, cond_true]
  ·rw [Bool.not_eq_true] at h20
   rw [h20, cond_false]
   cases hv : validB p with
   | false => simp only [Build_bad hv, Option.bind_some, io_eqi]; rfl
   | true =>
    have G := PG_few hv (few_zones hv (hfew rfl))
    obtain ⟨n1, n2⟩ := builtT_len G
    have c := (builtT_ok p).1
    obtain ⟨z', y, q1, q2, q3, q4, -, q6⟩ := leaves_loop c.ok (builtT_Bd G) ch h2 (tabE (builtT p), 0) rfl n1 11 0 0 limZ c.pos (by omega) (by omega) (fun b hb => by have := lim_get b; exact ⟨Int.le_refl _, this.2.1, Int.le_refl _⟩) (fun b hb _ => rfl)
    have q1' : whileG (law14_TableLeaves_l2 (tabE (builtT p), 0) ch) (limZ, 0, 0) = some (.inl (z', (y : Int))) := q1
    obtain ⟨f, w1, w2⟩ := facts_loop z' (fun b hb => (q4 b hb).2.1) hi
    have hin : limL.In (toF f) := fun b hb => by
     have := q4 b hb; have := w2 b hb
     rw [toF_get f hb]; omega
    have hval := q6 f w2
    have hsay := built_says p hin
    have hleaf := ((c.ok.fine y q2).leaf q3).2.2
    have hg : idxG (tabE (builtT p)).Nodes (y : Int) = some (encN ((builtT p).nd y)) := idxG_some (encs_get q2)
    have hgl : idxG (tabE (builtT p)).Leaves (encN ((builtT p).nd y)).Leaf = some ((builtT p).ls.getD ((builtT p).nd y).leaf default) := by
     refine idxG_some ?_
     show (builtT p).ls[_]? = _
     rw [List.getD_eq_getElem?_getD, List.getElem?_eq_getElem hleaf]; rfl
    have d1 : (0 : Int) ≤ (encN ((builtT p).nd y)).Leaf := by show (0 : Int) ≤ (((builtT p).nd y).leaf : Int); omega
    have d2 : (encN ((builtT p).nd y)).Leaf < (((tabE (builtT p)).Leaves.length : Nat) : Int) := by show (((builtT p).nd y).leaf : Int) < (((builtT p).ls.length : Nat) : Int); omega
    have e1 : decS p f = (builtT p).ls.getD ((builtT p).nd y).leaf default := by rw [← hsay]; exact hval
    have e2 : (builtT p).val (toF f) 0 = (builtT p).ls.getD ((builtT p).nd y).leaf default := hval
    simp only [Build_eq G hv, Option.bind_some, io_eqi, decide_true, Bool.not_true, cond_false, cond_true, Limits_eq, q1', orR, w1, hg, io_le, io_lt, io_len, decide_eq_true d1, decide_eq_true d2, hgl, Decide_eq p f G.rules G.zones, built_Lookup G, qDecision_eq, e1, e2]
end Go.SX.Td
