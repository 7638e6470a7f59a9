/- Parts of the proof. -/
import Derived.Test.YtllbabjgpdmblaaYClP15
import Derived.Test.YtllbabjgpdmblaaYCl6
namespace Go.SX.Cl
open Go Go.SX Go.SX.ClP
theorem note_twice (s : JS) (r r' : Rule) (hk : r'.Kind = r.Kind) (hn : r'.N = r.N) (_ : r'.R = r.R) (_ : r'.S = r.S) : normJ (note (normJ (note s 0 r)) 0 r') = normJ (note s 0 r) := by
 obtain ⟨tg, sg, lm, pr, fe, tx, cp, sh, rf, pd, so, bk, al, de⟩ := s
 by_cases k1 : r.Kind = 1
 · by_cases h : al < 0 <;> by_cases h' : de < 0 <;> by_cases a : 0 < r.N <;> by_cases b : lm = 0 <;> by_cases c : r.N < lm <;> simp [note, normJ, hk, hn, k1, h, h', a, b, c]
   all_goals omega
 · by_cases k2 : r.Kind = 2
   · by_cases h : al < 0 <;> by_cases h' : de < 0 <;> simp [note, normJ, hk, k2, h, h']
   · by_cases k3 : r.Kind = 3
     · by_cases h : al < 0 <;> by_cases h' : de < 0 <;> cases pd <;> simp [note, normJ, hk, k3, h, h']
     · by_cases k4 : r.Kind = 4
       · by_cases h : al < 0 <;> by_cases h' : de < 0 <;> cases so <;> simp [note, normJ, hk, k4, h, h']
       · by_cases k5 : r.Kind = 5
         · by_cases h : al < 0 <;> by_cases h' : de < 0 <;> cases bk <;> simp [note, normJ, hk, k5, h, h']
         · by_cases k6 : r.Kind = 6
           · by_cases h : al < 0 <;> by_cases h' : de < 0 <;> simp [note, normJ, hk, k6, h, h']
           · by_cases k7 : r.Kind = 7
             · by_cases h : al < 0 <;> by_cases h' : de < 0 <;> simp [note, normJ, hk, k7, h, h']
             · by_cases h : al < 0 <;> by_cases h' : de < 0 <;> simp [note, normJ, hk, k1, k2, k3, k4, k5, k6, k7, h, h']
def copyOf (p : Policy) (i : Nat) (x : Rule) : Policy := ⟨p.Rules.take (i + 1) ++ [x] ++ p.Rules.drop (i + 1)⟩
theorem copies_ok (p : Policy) (I : Ints p) (raw : Int) (hraw : 0 ≤ raw ∧ raw ≤ 255) (name : ByteArray) : law16_ClashCopies_g p raw name = some true := by
 unfold law16_ClashCopies_g
 obtain ⟨b, hb, hb'⟩ := few_eq p I 10 (by omega)
 simp only [head_eq, Option.bind_some, hb, io_not, io_len, io_eqi]
 cases b with
 | false => rfl
 | true =>
   have S := hb' rfl
   have hn := S.n
   simp only [Bool.not_true, cond_false]
   by_cases hl0 : (p.Rules.length : Int) = 0
   · simp only [hl0, decide_true, cond_true, Option.bind_some]
   · simp only [hl0, decide_false, cond_false, Option.bind_some, io_lt, io_ssz]
     by_cases hnm : (200 : Int) < name.size
     · simp only [hnm, decide_true, cond_true]
     · have hw : IntKind.i64.wrap raw = raw := wr64 (by omega) (by omega)
       have hm : raw.tmod p.Rules.length = ((raw.toNat % p.Rules.length : Nat) : Int) := by
         obtain ⟨m, rfl⟩ := Int.eq_ofNat_of_zero_le hraw.1
         simp [Int.tmod]
       have hlt : raw.toNat % p.Rules.length < p.Rules.length := Nat.mod_lt _ (by omega)
       have hd : divG (p.Rules.length : Int) = some () := by unfold divG; rw [if_neg hl0]
       simp only [hnm, decide_false, cond_false, hd, Option.bind_some, io_wrap, hw, io_rem, hm]
       generalize raw.toNat % p.Rules.length = i at hlt
       have hx : p.Rules[i]? = some p.Rules[i] := by simp [hlt]
       generalize hxx : p.Rules[i] = x at hx
       have hwi : IntKind.i64.wrap ((i : Int) + 1) = ((i + 1 : Nat) : Int) := wr_up (by omega)
       have h1 : subG p.Rules 0 ((i + 1 : Nat) : Int) = some (p.Rules.take (i + 1)) := by unfold subG; rw [if_pos (by omega)]; simp
       have h2 : subG p.Rules ((i + 1 : Nat) : Int) (p.Rules.length : Int) = some (p.Rules.drop (i + 1)) := by unfold subG; rw [if_pos (by omega)]; simp
       have h3 : appG ([] : List Rule) (p.Rules.take (i + 1)) = some (p.Rules.take (i + 1)) := by rw [appG_some (by simp; omega)]; rfl
       have h4 : appG (p.Rules.take (i + 1)) [Rule.mk x.Kind name x.Zones x.N x.R x.S] = some (p.Rules.take (i + 1) ++ [Rule.mk x.Kind name x.Zones x.N x.R x.S]) := appG_some (by simp; omega)
       have h5 : appG (p.Rules.take (i + 1) ++ [Rule.mk x.Kind name x.Zones x.N x.R x.S]) (p.Rules.drop (i + 1)) = some (p.Rules.take (i + 1) ++ [Rule.mk x.Kind name x.Zones x.N x.R x.S] ++ p.Rules.drop (i + 1)) := appG_some (by simp; omega)
       simp only [idxG_some hx, Option.bind_some, io_add, hwi, h1, h2, h3, h4, h5]
       have hq : Policy.mk (p.Rules.take (i + 1) ++ [Rule.mk x.Kind name x.Zones x.N x.R x.S] ++ p.Rules.drop (i + 1)) = copyOf p i (Rule.mk x.Kind name x.Zones x.N x.R x.S) := rfl
       rw [hq]
       generalize hxc : Rule.mk x.Kind name x.Zones x.N x.R x.S = x'
       have hk : x'.Kind = x.Kind := by rw [← hxc]
       have hN : x'.N = x.N := by rw [← hxc]
       have hR : x'.R = x.R := by rw [← hxc]
       have hS : x'.S = x.S := by rw [← hxc]
       have hZ : x'.Zones = x.Zones := by rw [← hxc]
       rw [Valid_eq]
       simp only [Option.bind_some]
       cases hv : validB (copyOf p i x') with
       | false => rfl
       | true =>
         have G := Good.of_valid hv
         have htl : (p.Rules.take (i + 1)).length = i + 1 := by rw [List.length_take]; omega
         have hra : ruleAt (copyOf p i x') (i + 1) = x' := by
           unfold ruleAt copyOf
           simp only
           rw [List.append_assoc, List.getElem?_append_right (by omega), htl]
           simp
         have hql : i + 1 < (copyOf p i x').Rules.length := by unfold copyOf; simp; omega
         have hflen := find_len hv
         simp only [Bool.not_true, cond_false, cond_true, Findings_eq, hv, if_true, Option.bind_some, about_eq _ _ _ _ hflen]
         by_cases hz : x.Zones = []
         · have h1 : ((findS (copyOf p i x')).any fun y => decide (y.Kind = 1) && (decide (y.A = ((i + 1 : Nat) : Int)) && decide (y.B = -1))) = true := by
             refine List.any_eq_true.2 ⟨⟨1, ((i + 1 : Nat) : Int), -1, zeroF⟩, ?_, by simp⟩
             unfold findS
             refine List.mem_append_left _ (List.mem_flatMap.2 ⟨i + 1, by simpa using hql, ?_⟩)
             unfold neverAt
             rw [if_pos (by rw [hra, hZ]; exact hz)]; simp
           have h0 : (x.Zones.length : Int) = 0 := by rw [hz]; rfl
           simp only [h1, h0, decide_true, cond_true, io_beq]
           cases ((findS (copyOf p i x')).any fun y => decide (y.Kind = 2) && (decide (y.A = ((i + 1 : Nat) : Int)) && decide (y.B = -1))) <;> rfl
         · have h1 : ((findS (copyOf p i x')).any fun y => decide (y.Kind = 1) && (decide (y.A = ((i + 1 : Nat) : Int)) && decide (y.B = -1))) = false := by
             rw [List.any_eq_false]
             intro y hy
             obtain ⟨a', _, hc⟩ := find_cases hv hy
             simp only [Bool.and_eq_true, decide_eq_true_eq, not_and]
             intro k1 k2 _
             rcases hc with ⟨rfl, hz'⟩ | ⟨g, rfl, _, _⟩ | ⟨b, g, _, rfl, _, _, _⟩
             · have : a' = i + 1 := by simp only at k2; omega
               subst this
               rw [hra, hZ] at hz'; exact hz hz'
             · simp only at k1; omega
             · simp only at k1; omega
           have h2 : ((findS (copyOf p i x')).any fun y => decide (y.Kind = 2) && (decide (y.A = ((i + 1 : Nat) : Int)) && decide (y.B = -1))) = true := by
             have hi : idleAt (copyOf p i x') (i + 1) ≠ [] := by
               unfold idleAt
               rw [if_pos]
               · simp
               · refine ⟨by rw [hra, hZ]; exact hz, fun f hf hh => ?_⟩
                 rw [hra] at hh
                 have hhx : holds x f = true := by unfold holds at hh ⊢; rw [← hZ]; exact hh
                 refine like_held ?_
                 have e1 : (copyOf p i x').Rules = p.Rules.take i ++ ([x] ++ ([x'] ++ p.Rules.drop (i + 1))) := by
                   unfold copyOf
                   simp only
                   rw [List.take_add_one, hx]; simp
                 have e2 : (without (copyOf p i x') (i + 1)).Rules = p.Rules.take i ++ ([x] ++ p.Rules.drop (i + 1)) := by
                   unfold without copyOf
                   simp only
                   have t1 : (p.Rules.take (i + 1) ++ [x'] ++ p.Rules.drop (i + 1)).take (i + 1) = p.Rules.take (i + 1) := by
                     rw [List.append_assoc]
                     have := List.take_left (l₁ := p.Rules.take (i + 1)) (l₂ := [x'] ++ p.Rules.drop (i + 1))
                     rwa [htl] at this
                   have t2 : (p.Rules.take (i + 1) ++ [x'] ++ p.Rules.drop (i + 1)).drop (i + 1 + 1) = p.Rules.drop (i + 1) := by
                     have := List.drop_left (l₁ := p.Rules.take (i + 1) ++ [x']) (l₂ := p.Rules.drop (i + 1))
                     rw [List.length_append, htl] at this
                     exact this
                   rw [t1, t2, List.take_add_one, hx]; simp
                 rw [e1, e2]
                 simp only [List.filter_append, List.filter_cons, List.filter_nil, hh, hhx, if_true, heldJ, List.foldl_append, List.foldl_cons, List.foldl_nil]
                 rw [note_twice _ x x' hk hN hR hS]
             obtain ⟨y, hy⟩ := List.exists_mem_of_ne_nil _ hi
             have hy' := hy
             unfold idleAt at hy'
             split at hy'
             · refine List.any_eq_true.2 ⟨y, ?_, ?_⟩
               · unfold findS
                 exact List.mem_append_right _ (List.mem_append_left _ (List.mem_flatMap.2 ⟨i + 1, by simpa using hql, hy⟩))
               · rw [List.mem_singleton] at hy'
                 subst hy'; simp
             · cases hy'
           have h0 : ¬ ((x.Zones.length : Int) = 0) := by
             intro h; exact hz (List.eq_nil_of_length_eq_zero (by omega))
           simp only [h1, h2, h0, decide_false, cond_true, io_beq]
           rfl
end Go.SX.Cl
