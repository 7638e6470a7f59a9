/- Parts of the proof. -/
import Derived.Test.YtllbabjgpdmblaaZClP4
import Derived.Test.YtllbabjgpdmblaaZClLaccept
import Derived.Test.YtllbabjgpdmblaaZClLdiffers
set_option linter.unusedSimpArgs false
set_option linter.unusedVariables false
namespace Go.SX.Cl
open Go Go.SX Go.SX.ClP
section
variable (fd : Finder) (need : List Int) 
theorem contains_accept (alive : List Nat) (hal : ∀ i ∈ alive, i < fd.zones.length) (hlen : alive.length ≤ 1000000) (r : Int) :
   whileG (search_accept_l26 (ints alive) fd r) 0 = some (if alive.any (fun i => decide (zrule fd i = r)) then .inr false else .inl ()) := by
 refine loop_any (step := search_accept_l26 (ints alive) fd r) alive (fun i => decide (zrule fd i = r)) (.inr false) (.inl ()) (fun k i hi => ?_) (by simp [search_accept_l26, io_lt, io_len, ints_len])
 have hk : k < alive.length := (List.getElem?_eq_some_iff.1 hi).1
 have hlt : (k : Int) < (ints alive).length := by rw [ints_len]; omega
 have hil := hal i (List.mem_of_getElem? hi)
 have hz : fd.zones[i]? = some fd.zones[i] := by simp [hil]
 have hr : fd.zones[i].rule = zrule fd i := by simp [zrule, hz]
 have hge : (0 : Int) ≤ k := by omega
 simp only [search_accept_l26, io_lt, io_len, hlt, decide_true, cond_true, idxG_some (ints_get hi), idxG_some hz, Option.bind_some, hr, io_eqi, io_add, wr_up (k := k) (by omega), io_not, io_le, hge]
 cases decide (zrule fd i = r) <;> rfl
theorem need_accept (alive : List Nat) (hal : ∀ i ∈ alive, i < fd.zones.length) (hlen : alive.length ≤ 1000000) (hn : need.length ≤ 1000000) (facts : A10 Int) (failed : List (ByteArray × Bool)) :
   whileG (search_accept_l22 need (ints alive) fd facts failed) 0 = some (if need.any (fun r => !(alive.any fun i => decide (zrule fd i = r))) then .inr (false, facts, failed) else .inl ()) := by
 refine loop_any (step := search_accept_l22 need (ints alive) fd facts failed) need (fun r => !(alive.any fun i => decide (zrule fd i = r))) (.inr (false, facts, failed)) (.inl ()) (fun k r hr => ?_) (by simp [search_accept_l22, io_lt, io_len])
 have hk : k < need.length := (List.getElem?_eq_some_iff.1 hr).1
 have hlt : (k : Int) < need.length := by omega
 simp only [search_accept_l22, io_lt, io_len, hlt, decide_true, cond_true, idxG_some hr, Option.bind_some, contains_accept fd alive hal hlen, io_add, wr_up (k := k) (by omega), io_not, io_le]
 cases alive.any (fun i => decide (zrule fd i = r)) <;> simp [orR]
theorem name_accept (alive : List Nat) (hlen : alive.length ≤ 1000000) (a : Nat) (ha : a < 10) :
   whileG (search_accept_l28 (ints alive)) ([io.wrap .u8 (a : Int)], 0) = some (keyN a alive) := by
 have h0 : [io.wrap .u8 (a : Int)] = [(a : Int)] := by rw [io_wrap, IntKind.wrap_u8]; congr 1; omega
 rw [h0]
 have hl : ∀ (l : List Nat) (s : List Int), (l.foldl (fun s i => s ++ kb i) s).length = s.length + 3 * l.length := fun l => by
   induction l with
   | nil => intro s; simp
   | cons i l ih => intro s; rw [List.foldl_cons, ih]; simp [kb]; omega
 have := loop_fold (step := search_accept_l28 (ints alive)) (fun s i => (s, i)) alive (fun s i => s ++ kb i) [(a : Int)] (keyN a alive) (fun k i hi => by
   have hk : k < alive.length := (List.getElem?_eq_some_iff.1 hi).1
   have hlt : (k : Int) < (ints alive).length := by rw [ints_len]; omega
   have h1 := hl (alive.take k) [(a : Int)]
   have h2 : (alive.take k).length ≤ 1000000 := by rw [List.length_take]; omega
   generalize (alive.take k).foldl (fun s i => s ++ kb i) [(a : Int)] = s at h1
   have h3 : appG s (kb i) = some (s ++ kb i) := appG_some (by simp [kb] at h1 ⊢; omega)
   simp only [search_accept_l28, io_lt, io_len, hlt, decide_true, cond_true, idxG_some (ints_get hi), Option.bind_some, kb_eq, h3, io_add, wr_up (k := k) (by omega)]) (by
   rw [keyN_fold]
   simp [search_accept_l28, io_lt, io_len, ints_len, keyN])
 exact this
theorem next_accept (alive : List Nat) (hal : ∀ i ∈ alive, i < fd.zones.length) (hlen : alive.length ≤ 1000000) (a : Nat) (ha : a < 10) (x : Int) :
   whileG (search_accept_l54 (ints alive) fd a x) ([], 0) = some (ints (alive.filter fun i => inAt (zlo fd) (zhi fd) i a x)) := by
 have hf : ∀ (l s : List Nat), l.foldl (fun s i => if inAt (zlo fd) (zhi fd) i a x then s ++ [i] else s) s = s ++ l.filter (fun i => inAt (zlo fd) (zhi fd) i a x) := fun l => by
   induction l with
   | nil => intro s; simp
   | cons i l ih =>
     intro s
     rw [List.foldl_cons, ih, List.filter_cons]
     split <;> simp
 have := loop_fold (step := search_accept_l54 (ints alive) fd a x) (fun s i => (ints s, i)) alive (fun s i => if inAt (zlo fd) (zhi fd) i a x then s ++ [i] else s) [] (ints (alive.filter fun i => inAt (zlo fd) (zhi fd) i a x)) (fun k i hi => by
   have hk : k < alive.length := (List.getElem?_eq_some_iff.1 hi).1
   have hlt : (k : Int) < (ints alive).length := by rw [ints_len]; omega
   have hil := hal i (List.mem_of_getElem? hi)
   have hz : fd.zones[i]? = some fd.zones[i] := by simp [hil]
   have hzl : (fd.zones[i].zone.get a).Lo = zlo fd i a := by simp [zlo, hz]
   have hzh : (fd.zones[i].zone.get a).Hi = zhi fd i a := by simp [zhi, hz]
   rw [hf, List.nil_append]
   have hsl : ((alive.take k).filter fun i => inAt (zlo fd) (zhi fd) i a x).length ≤ 1000000 := Nat.le_trans (List.length_filter_le _ _) (by rw [List.length_take]; omega)
   generalize ((alive.take k).filter fun i => inAt (zlo fd) (zhi fd) i a x) = s at hsl
   have h3 : appG (ints s) [(i : Int)] = some (ints (s ++ [i])) := by
     rw [appG_some (by simp [ints]; omega)]; simp [ints]
   simp only [search_accept_l54, io_lt, io_len, hlt, decide_true, cond_true, idxG_some (ints_get hi), idxG_some hz, pixG_some ha, Option.bind_some, hzl, hzh, io_le, h3, io_add, wr_up (k := k) (by omega), inAt]
   by_cases h1 : zlo fd i a ≤ x
   · by_cases h2 : x ≤ zhi fd i a
     · simp [h1, h2, h3]
     · simp [h1, h2]
   · simp [h1]) (by
   rw [hf, List.nil_append]
   simp [search_accept_l54, io_lt, io_len, ints_len])
 exact this
def Memo_accept (Wt : List Nat → Bool) (failed : List (ByteArray × Bool)) : Prop :=
 ∀ (a : Nat) (alive : List Nat), a < 10 → (∀ i ∈ alive, i < fd.zones.length) → mlookD failed (keyS a alive) false = true → bad (zlo fd) (zhi fd) (fL fd) (fH fd) (zrule fd) need Wt a alive
structure Fit_accept (Wt : List Nat → Bool) : Prop where
 zs : fd.zones.length ≤ 1000000
 nd : need.length ≤ 1000000
 lim : ∀ j, j < 10 → 0 ≤ fL fd j ∧ fL fd j ≤ fH fd j ∧ fH fd j ≤ 2000000000
 zone : ∀ i, i < fd.zones.length → ∀ j, j < 10 → fL fd j ≤ zlo fd i j ∧ zlo fd i j ≤ zhi fd i j ∧ zhi fd i j ≤ fH fd j
 wt : ∀ f, clash_accept_g f = some (Wt (zof fd f 10))
variable {fd need }
theorem search_accept_ok {Wt : List Nat → Bool} (F : Fit_accept fd need Wt) : ∀ (n a : Nat) (facts : A10 Int) (failed : List (ByteArray × Bool)), n + a = 11 → a ≤ 10 → Memo_accept fd need Wt failed →
   ∃ b g failed', search_accept fd need n a (ints (zof fd facts a)) facts failed = some (b, g, failed') ∧ Memo_accept fd need Wt failed' ∧ (∀ j, j < a → g.get j = facts.get j) ∧
     (b = true → found (zlo fd) (zhi fd) (fL fd) (fH fd) (zrule fd) need Wt a (zof fd facts a) facts.get g.get) ∧ (b = false → bad (zlo fd) (zhi fd) (fL fd) (fH fd) (zrule fd) need Wt a (zof fd facts a)) := by
 intro n
 induction n with
 | zero => intro a facts failed h1 h2; omega
 | succ n ih =>
   intro a facts failed hna ha hM
   have hal : ∀ i ∈ zof fd facts a, i < fd.zones.length := zof_lt
   have hzl : (zof fd facts a).length ≤ 1000000 := Nat.le_trans (zof_len _ _ _) F.zs
   generalize hA : zof fd facts a = alive at hal hzl
   simp only [search_accept, search_accept_b, need_accept fd need alive hal hzl F.nd]
   cases hneed : need.any (fun r => !(alive.any fun i => decide (zrule fd i = r))) with
   | true =>
     refine ⟨false, facts, failed, by simp [orR], hM, fun _ _ => rfl, (fun h => by cases h), fun _ => ?_⟩
     obtain ⟨r, hr, h⟩ := List.any_eq_true.1 hneed
     refine bad_need hr fun i hi hri => ?_
     have : alive.any (fun i => decide (zrule fd i = r)) = true := List.any_eq_true.2 ⟨i, hi, by simpa using hri⟩
     rw [this] at h; cases h
   | false =>
     have hneed' : ∀ r ∈ need, ∃ i ∈ alive, zrule fd i = r := fun r hr => by
       have := (List.any_eq_false.1 hneed) r hr
       simp only [Bool.not_eq_true, Bool.not_eq_false'] at this
       obtain ⟨i, hi, h⟩ := List.any_eq_true.1 this
       exact ⟨i, hi, by simpa using h⟩
     simp only [orR, Bool.false_eq_true, if_false, Option.bind_some, io_eqi]
     by_cases ha10 : a = 10
     · subst ha10
       have hw := F.wt facts
       rw [hA] at hw
       have h10 : ((10 : Nat) : Int) = 10 := rfl
       simp only [h10, decide_true, cond_true]
       simp only [hw, Option.bind_some]
       cases hW : Wt alive
       · refine ⟨false, facts, failed, rfl, hM, fun _ _ => rfl, (fun h => by cases h), fun _ => bad_end fun hg => ?_⟩
         rw [hg.2] at hW; cases hW
       · refine ⟨true, facts, failed, rfl, hM, fun _ _ => rfl, fun _ => found_end ⟨hneed', hW⟩, (fun h => by cases h)⟩
     · have halt : a < 10 := by omega
       have hne : ¬ ((a : Int) = 10) := by omega
       simp only [hne, decide_false, cond_false, name_accept alive hzl a halt, Option.bind_some]
       have hk : strOfNums (keyN a alive) = keyS a alive := rfl
       rw [hk]
       cases hmem : mlookD failed (keyS a alive) false with
       | true =>
         refine ⟨false, facts, failed, by simp, hM, fun _ _ => rfl, (fun h => by cases h), fun _ => ?_⟩
         exact hM a alive halt hal hmem
       | false =>
         simp only [cond_false]
         obtain ⟨cuts, hc1, hc2, hc3, hc4⟩ := cuts_ok fd a halt alive hal hzl (by have := (F.lim a halt).2.2; omega) (fun i hi => by have := F.zone i (hal i hi) a halt; have := F.lim a halt; omega)
         simp only [hc1, Option.bind_some]
         have hcb : ∀ c ∈ cuts, fL fd a ≤ c ∧ c ≤ fH fd a := fun c hc => by
           rcases (hc4 c).1 hc with rfl | ⟨i, hi, rfl | ⟨h1, rfl⟩⟩
           · exact ⟨Int.le_refl _, (F.lim a halt).2.1⟩
           · have := F.zone i (hal i hi) a halt; omega
           · have := F.zone i (hal i hi) a halt; omega
         obtain ⟨t, ht, hQ⟩ := loop_up (step := search_accept_l50 cuts a (ints alive) fd (search_accept fd need n)) (fun (s : List (ByteArray × Bool) × A10 Int) i => (s.1, s.2, i)) cuts.length
           (fun k s => Memo_accept fd need Wt s.1 ∧ (∀ j, j < a → s.2.get j = facts.get j) ∧ ∀ c ∈ cuts.take k, bad (zlo fd) (zhi fd) (fL fd) (fH fd) (zrule fd) need Wt (a + 1) (alive.filter fun i => inAt (zlo fd) (zhi fd) i a c))
           (fun t => (∃ own c, t = .inl (own, c) ∧ Memo_accept fd need Wt own ∧ (∀ j, j < a → c.get j = facts.get j) ∧ bad (zlo fd) (zhi fd) (fL fd) (fH fd) (zrule fd) need Wt a alive) ∨
             (∃ own g, t = .inr (true, g, own) ∧ Memo_accept fd need Wt own ∧ found (zlo fd) (zhi fd) (fL fd) (fH fd) (zrule fd) need Wt a alive facts.get g.get))
           (fun k s hk hI => by
             obtain ⟨own, c⟩ := s
             obtain ⟨hI1, hI2, hI3⟩ := hI
             simp only at hI1 hI2
             have hck : cuts[k]? = some cuts[k] := by simp [hk]
             have hlt : (k : Int) < cuts.length := by omega
             have hput : ∀ j, j < a → (c.put a cuts[k]).get j = facts.get j := fun j hj => by rw [A10.get_put _ _ _ _ halt (by omega), if_neg (by omega)]; exact hI2 j hj
             have hputa : (c.put a cuts[k]).get a = cuts[k] := by rw [A10.get_put _ _ _ _ halt halt, if_pos rfl]
             have hz : zof fd (c.put a cuts[k]) (a + 1) = alive.filter fun i => inAt (zlo fd) (zhi fd) i a cuts[k] := by
               rw [zof_succ (f := facts) hput, hA, hputa]
             obtain ⟨b, g, own', h1, h2, h3, h4, h5⟩ := ih (a + 1) (c.put a cuts[k]) own (by omega) (by omega) hI1
             rw [hz] at h1 h4 h5
             have hg : ∀ j, j < a → g.get j = facts.get j := fun j hj => (h3 j (by omega)).trans (hput j hj)
             have hwa : IntKind.i64.wrap ((a : Int) + 1) = ((a + 1 : Nat) : Int) := wr_up (by omega)
             simp only [search_accept_l50, io_lt, io_len, hlt, decide_true, cond_true, idxG_some hck, pixG_some halt, Option.bind_some, next_accept fd alive hal hzl a halt, io_add, hwa, h1, wr_up (k := k) (by omega)]
             cases b with
             | true =>
               refine .inr ⟨_, by simp [orR], .inr ⟨own', g, rfl, h2, ?_⟩⟩
               refine found_of_cut halt hc4 (hcb _ (List.getElem_mem hk)) (fun c' hc' hlt' => ?_) hput hputa (h4 rfl)
               obtain ⟨i, hi, rfl⟩ := List.getElem_of_mem hc'
               refine hI3 _ (List.mem_take_iff_getElem.2 ⟨i, ?_, rfl⟩)
               have : i < k := by
                 refine Classical.byContradiction fun hge => ?_
                 rcases Nat.lt_or_eq_of_le (Nat.le_of_not_lt hge) with h | h
                 · have := List.pairwise_iff_getElem.1 hc2 k i hk hi h; omega
                 · subst h; omega
               omega
             | false =>
               refine .inl ⟨(own', g), by simp [orR], h2, hg, fun c' hc' => ?_⟩
               rw [List.take_add_one, hck] at hc'
               rcases List.mem_append.1 hc' with h | h
               · exact hI3 c' h
               · have : c' = cuts[k] := by simpa using h
                 subst this; exact h5 rfl)
           (fun s hI => by
             obtain ⟨own, c⟩ := s
             obtain ⟨hI1, hI2, hI3⟩ := hI
             rw [List.take_length] at hI3
             exact ⟨_, by simp [search_accept_l50, io_lt, io_len], .inl ⟨own, c, rfl, hI1, hI2, bad_of_cuts halt hc4 hI3⟩⟩)
           (failed, facts) ⟨hM, fun _ _ => rfl, fun c hc => by simp at hc⟩
         simp only [ht, Option.bind_some]
         rcases hQ with ⟨own, c, rfl, hm, hcj, hbad⟩ | ⟨own, g, rfl, hm, hf⟩
         · simp only [pixG_some halt, Option.bind_some]
           refine ⟨false, _, _, rfl, fun a' alive' ha' hal' hl' => ?_, fun j hj => ?_, (fun h => by cases h), fun _ => hbad⟩
           · rw [mlookD_mputG] at hl'
             split at hl'
             · rename_i he
               have hsz := F.zs
               obtain ⟨rfl, rfl⟩ := keyS_inj ha' halt (fun i hi => by have := hal' i hi; omega) (fun i hi => by have := hal i hi; omega) he
               exact hbad
             · exact hm a' alive' ha' hal' hl'
           · rw [A10.get_put _ _ _ _ halt (by omega), if_neg (by omega)]; exact hcj j hj
         · exact ⟨true, g, own, rfl, hm, hf.pre, fun _ => hf, (fun h => by cases h)⟩
end
section
variable (fd : Finder) (need : List Int) (fe : Finder) (less : Policy)
theorem contains_differs (alive : List Nat) (hal : ∀ i ∈ alive, i < fd.zones.length) (hlen : alive.length ≤ 1000000) (r : Int) :
   whileG (search_differs_l26 (ints alive) fd r) 0 = some (if alive.any (fun i => decide (zrule fd i = r)) then .inr false else .inl ()) := by
 refine loop_any (step := search_differs_l26 (ints alive) fd r) alive (fun i => decide (zrule fd i = r)) (.inr false) (.inl ()) (fun k i hi => ?_) (by simp [search_differs_l26, io_lt, io_len, ints_len])
 have hk : k < alive.length := (List.getElem?_eq_some_iff.1 hi).1
 have hlt : (k : Int) < (ints alive).length := by rw [ints_len]; omega
 have hil := hal i (List.mem_of_getElem? hi)
 have hz : fd.zones[i]? = some fd.zones[i] := by simp [hil]
 have hr : fd.zones[i].rule = zrule fd i := by simp [zrule, hz]
 have hge : (0 : Int) ≤ k := by omega
 simp only [search_differs_l26, io_lt, io_len, hlt, decide_true, cond_true, idxG_some (ints_get hi), idxG_some hz, Option.bind_some, hr, io_eqi, io_add, wr_up (k := k) (by omega), io_not, io_le, hge]
 cases decide (zrule fd i = r) <;> rfl
theorem need_differs (alive : List Nat) (hal : ∀ i ∈ alive, i < fd.zones.length) (hlen : alive.length ≤ 1000000) (hn : need.length ≤ 1000000) (facts : A10 Int) (failed : List (ByteArray × Bool)) :
   whileG (search_differs_l22 need (ints alive) fd facts failed) 0 = some (if need.any (fun r => !(alive.any fun i => decide (zrule fd i = r))) then .inr (false, facts, failed) else .inl ()) := by
 refine loop_any (step := search_differs_l22 need (ints alive) fd facts failed) need (fun r => !(alive.any fun i => decide (zrule fd i = r))) (.inr (false, facts, failed)) (.inl ()) (fun k r hr => ?_) (by simp [search_differs_l22, io_lt, io_len])
 have hk : k < need.length := (List.getElem?_eq_some_iff.1 hr).1
 have hlt : (k : Int) < need.length := by omega
 simp only [search_differs_l22, io_lt, io_len, hlt, decide_true, cond_true, idxG_some hr, Option.bind_some, contains_differs fd alive hal hlen, io_add, wr_up (k := k) (by omega), io_not, io_le]
 cases alive.any (fun i => decide (zrule fd i = r)) <;> simp [orR]
theorem name_differs (alive : List Nat) (hlen : alive.length ≤ 1000000) (a : Nat) (ha : a < 10) :
   whileG (search_differs_l28 (ints alive)) ([io.wrap .u8 (a : Int)], 0) = some (keyN a alive) := by
 have h0 : [io.wrap .u8 (a : Int)] = [(a : Int)] := by rw [io_wrap, IntKind.wrap_u8]; congr 1; omega
 rw [h0]
 have hl : ∀ (l : List Nat) (s : List Int), (l.foldl (fun s i => s ++ kb i) s).length = s.length + 3 * l.length := fun l => by
   induction l with
   | nil => intro s; simp
   | cons i l ih => intro s; rw [List.foldl_cons, ih]; simp [kb]; omega
 have := loop_fold (step := search_differs_l28 (ints alive)) (fun s i => (s, i)) alive (fun s i => s ++ kb i) [(a : Int)] (keyN a alive) (fun k i hi => by
   have hk : k < alive.length := (List.getElem?_eq_some_iff.1 hi).1
   have hlt : (k : Int) < (ints alive).length := by rw [ints_len]; omega
   have h1 := hl (alive.take k) [(a : Int)]
   have h2 : (alive.take k).length ≤ 1000000 := by rw [List.length_take]; omega
   generalize (alive.take k).foldl (fun s i => s ++ kb i) [(a : Int)] = s at h1
   have h3 : appG s (kb i) = some (s ++ kb i) := appG_some (by simp [kb] at h1 ⊢; omega)
   simp only [search_differs_l28, io_lt, io_len, hlt, decide_true, cond_true, idxG_some (ints_get hi), Option.bind_some, kb_eq, h3, io_add, wr_up (k := k) (by omega)]) (by
   rw [keyN_fold]
   simp [search_differs_l28, io_lt, io_len, ints_len, keyN])
 exact this
theorem next_differs (alive : List Nat) (hal : ∀ i ∈ alive, i < fd.zones.length) (hlen : alive.length ≤ 1000000) (a : Nat) (ha : a < 10) (x : Int) :
   whileG (search_differs_l54 (ints alive) fd a x) ([], 0) = some (ints (alive.filter fun i => inAt (zlo fd) (zhi fd) i a x)) := by
 have hf : ∀ (l s : List Nat), l.foldl (fun s i => if inAt (zlo fd) (zhi fd) i a x then s ++ [i] else s) s = s ++ l.filter (fun i => inAt (zlo fd) (zhi fd) i a x) := fun l => by
   induction l with
   | nil => intro s; simp
   | cons i l ih =>
     intro s
     rw [List.foldl_cons, ih, List.filter_cons]
     split <;> simp
 have := loop_fold (step := search_differs_l54 (ints alive) fd a x) (fun s i => (ints s, i)) alive (fun s i => if inAt (zlo fd) (zhi fd) i a x then s ++ [i] else s) [] (ints (alive.filter fun i => inAt (zlo fd) (zhi fd) i a x)) (fun k i hi => by
   have hk : k < alive.length := (List.getElem?_eq_some_iff.1 hi).1
   have hlt : (k : Int) < (ints alive).length := by rw [ints_len]; omega
   have hil := hal i (List.mem_of_getElem? hi)
   have hz : fd.zones[i]? = some fd.zones[i] := by simp [hil]
   have hzl : (fd.zones[i].zone.get a).Lo = zlo fd i a := by simp [zlo, hz]
   have hzh : (fd.zones[i].zone.get a).Hi = zhi fd i a := by simp [zhi, hz]
   rw [hf, List.nil_append]
   have hsl : ((alive.take k).filter fun i => inAt (zlo fd) (zhi fd) i a x).length ≤ 1000000 := Nat.le_trans (List.length_filter_le _ _) (by rw [List.length_take]; omega)
   generalize ((alive.take k).filter fun i => inAt (zlo fd) (zhi fd) i a x) = s at hsl
   have h3 : appG (ints s) [(i : Int)] = some (ints (s ++ [i])) := by
     rw [appG_some (by simp [ints]; omega)]; simp [ints]
   simp only [search_differs_l54, io_lt, io_len, hlt, decide_true, cond_true, idxG_some (ints_get hi), idxG_some hz, pixG_some ha, Option.bind_some, hzl, hzh, io_le, h3, io_add, wr_up (k := k) (by omega), inAt]
   by_cases h1 : zlo fd i a ≤ x
   · by_cases h2 : x ≤ zhi fd i a
     · simp [h1, h2, h3]
     · simp [h1, h2]
   · simp [h1]) (by
   rw [hf, List.nil_append]
   simp [search_differs_l54, io_lt, io_len, ints_len])
 exact this
def Memo_differs (Wt : List Nat → Bool) (failed : List (ByteArray × Bool)) : Prop :=
 ∀ (a : Nat) (alive : List Nat), a < 10 → (∀ i ∈ alive, i < fd.zones.length) → mlookD failed (keyS a alive) false = true → bad (zlo fd) (zhi fd) (fL fd) (fH fd) (zrule fd) need Wt a alive
structure Fit_differs (Wt : List Nat → Bool) : Prop where
 zs : fd.zones.length ≤ 1000000
 nd : need.length ≤ 1000000
 lim : ∀ j, j < 10 → 0 ≤ fL fd j ∧ fL fd j ≤ fH fd j ∧ fH fd j ≤ 2000000000
 zone : ∀ i, i < fd.zones.length → ∀ j, j < 10 → fL fd j ≤ zlo fd i j ∧ zlo fd i j ≤ zhi fd i j ∧ zhi fd i j ≤ fH fd j
 wt : ∀ f, Option.bind (decide_Decide_g fe.policy f) (fun x => Option.bind (decide_Decide_g less f) fun y => some (io.not (qDecision (Decision.mk x.Allowed x.Together x.Single x.Limit x.Price x.Fee x.Tax x.Cap x.Share x.Refund y.By) y))) = some (Wt (zof fd f 10))
variable {fd need fe less}
theorem search_differs_ok {Wt : List Nat → Bool} (F : Fit_differs fd need fe less Wt) : ∀ (n a : Nat) (facts : A10 Int) (failed : List (ByteArray × Bool)), n + a = 11 → a ≤ 10 → Memo_differs fd need Wt failed →
   ∃ b g failed', search_differs fd need fe less n a (ints (zof fd facts a)) facts failed = some (b, g, failed') ∧ Memo_differs fd need Wt failed' ∧ (∀ j, j < a → g.get j = facts.get j) ∧
     (b = true → found (zlo fd) (zhi fd) (fL fd) (fH fd) (zrule fd) need Wt a (zof fd facts a) facts.get g.get) ∧ (b = false → bad (zlo fd) (zhi fd) (fL fd) (fH fd) (zrule fd) need Wt a (zof fd facts a)) := by
 intro n
 induction n with
 | zero => intro a facts failed h1 h2; omega
 | succ n ih =>
   intro a facts failed hna ha hM
   have hal : ∀ i ∈ zof fd facts a, i < fd.zones.length := zof_lt
   have hzl : (zof fd facts a).length ≤ 1000000 := Nat.le_trans (zof_len _ _ _) F.zs
   generalize hA : zof fd facts a = alive at hal hzl
   simp only [search_differs, search_differs_b, need_differs fd need alive hal hzl F.nd]
   cases hneed : need.any (fun r => !(alive.any fun i => decide (zrule fd i = r))) with
   | true =>
     refine ⟨false, facts, failed, by simp [orR], hM, fun _ _ => rfl, (fun h => by cases h), fun _ => ?_⟩
     obtain ⟨r, hr, h⟩ := List.any_eq_true.1 hneed
     refine bad_need hr fun i hi hri => ?_
     have : alive.any (fun i => decide (zrule fd i = r)) = true := List.any_eq_true.2 ⟨i, hi, by simpa using hri⟩
     rw [this] at h; cases h
   | false =>
     have hneed' : ∀ r ∈ need, ∃ i ∈ alive, zrule fd i = r := fun r hr => by
       have := (List.any_eq_false.1 hneed) r hr
       simp only [Bool.not_eq_true, Bool.not_eq_false'] at this
       obtain ⟨i, hi, h⟩ := List.any_eq_true.1 this
       exact ⟨i, hi, by simpa using h⟩
     simp only [orR, Bool.false_eq_true, if_false, Option.bind_some, io_eqi]
     by_cases ha10 : a = 10
     · subst ha10
       have hw := F.wt facts
       rw [hA] at hw
       have h10 : ((10 : Nat) : Int) = 10 := rfl
       simp only [h10, decide_true, cond_true]
       cases hx : decide_Decide_g fe.policy facts with
       | none => rw [hx] at hw; cases hw
       | some x =>
       cases hy : decide_Decide_g less facts with
       | none => rw [hx, hy] at hw; cases hw
       | some y =>
       rw [hx, hy] at hw
       simp only [Option.bind_some, Option.some.injEq] at hw ⊢
       rw [hw]
       cases hW : Wt alive
       · refine ⟨false, facts, failed, rfl, hM, fun _ _ => rfl, (fun h => by cases h), fun _ => bad_end fun hg => ?_⟩
         rw [hg.2] at hW; cases hW
       · refine ⟨true, facts, failed, rfl, hM, fun _ _ => rfl, fun _ => found_end ⟨hneed', hW⟩, (fun h => by cases h)⟩
     · have halt : a < 10 := by omega
       have hne : ¬ ((a : Int) = 10) := by omega
       simp only [hne, decide_false, cond_false, name_differs alive hzl a halt, Option.bind_some]
       have hk : strOfNums (keyN a alive) = keyS a alive := rfl
       rw [hk]
       cases hmem : mlookD failed (keyS a alive) false with
       | true =>
         refine ⟨false, facts, failed, by simp, hM, fun _ _ => rfl, (fun h => by cases h), fun _ => ?_⟩
         exact hM a alive halt hal hmem
       | false =>
         simp only [cond_false]
         obtain ⟨cuts, hc1, hc2, hc3, hc4⟩ := cuts_ok fd a halt alive hal hzl (by have := (F.lim a halt).2.2; omega) (fun i hi => by have := F.zone i (hal i hi) a halt; have := F.lim a halt; omega)
         simp only [hc1, Option.bind_some]
         have hcb : ∀ c ∈ cuts, fL fd a ≤ c ∧ c ≤ fH fd a := fun c hc => by
           rcases (hc4 c).1 hc with rfl | ⟨i, hi, rfl | ⟨h1, rfl⟩⟩
           · exact ⟨Int.le_refl _, (F.lim a halt).2.1⟩
           · have := F.zone i (hal i hi) a halt; omega
           · have := F.zone i (hal i hi) a halt; omega
         obtain ⟨t, ht, hQ⟩ := loop_up (step := search_differs_l50 cuts a (ints alive) fd (search_differs fd need fe less n)) (fun (s : List (ByteArray × Bool) × A10 Int) i => (s.1, s.2, i)) cuts.length
           (fun k s => Memo_differs fd need Wt s.1 ∧ (∀ j, j < a → s.2.get j = facts.get j) ∧ ∀ c ∈ cuts.take k, bad (zlo fd) (zhi fd) (fL fd) (fH fd) (zrule fd) need Wt (a + 1) (alive.filter fun i => inAt (zlo fd) (zhi fd) i a c))
           (fun t => (∃ own c, t = .inl (own, c) ∧ Memo_differs fd need Wt own ∧ (∀ j, j < a → c.get j = facts.get j) ∧ bad (zlo fd) (zhi fd) (fL fd) (fH fd) (zrule fd) need Wt a alive) ∨
             (∃ own g, t = .inr (true, g, own) ∧ Memo_differs fd need Wt own ∧ found (zlo fd) (zhi fd) (fL fd) (fH fd) (zrule fd) need Wt a alive facts.get g.get))
           (fun k s hk hI => by
             obtain ⟨own, c⟩ := s
             obtain ⟨hI1, hI2, hI3⟩ := hI
             simp only at hI1 hI2
             have hck : cuts[k]? = some cuts[k] := by simp [hk]
             have hlt : (k : Int) < cuts.length := by omega
             have hput : ∀ j, j < a → (c.put a cuts[k]).get j = facts.get j := fun j hj => by rw [A10.get_put _ _ _ _ halt (by omega), if_neg (by omega)]; exact hI2 j hj
             have hputa : (c.put a cuts[k]).get a = cuts[k] := by rw [A10.get_put _ _ _ _ halt halt, if_pos rfl]
             have hz : zof fd (c.put a cuts[k]) (a + 1) = alive.filter fun i => inAt (zlo fd) (zhi fd) i a cuts[k] := by
               rw [zof_succ (f := facts) hput, hA, hputa]
             obtain ⟨b, g, own', h1, h2, h3, h4, h5⟩ := ih (a + 1) (c.put a cuts[k]) own (by omega) (by omega) hI1
             rw [hz] at h1 h4 h5
             have hg : ∀ j, j < a → g.get j = facts.get j := fun j hj => (h3 j (by omega)).trans (hput j hj)
             have hwa : IntKind.i64.wrap ((a : Int) + 1) = ((a + 1 : Nat) : Int) := wr_up (by omega)
             simp only [search_differs_l50, io_lt, io_len, hlt, decide_true, cond_true, idxG_some hck, pixG_some halt, Option.bind_some, next_differs fd alive hal hzl a halt, io_add, hwa, h1, wr_up (k := k) (by omega)]
             cases b with
             | true =>
               refine .inr ⟨_, by simp [orR], .inr ⟨own', g, rfl, h2, ?_⟩⟩
               refine found_of_cut halt hc4 (hcb _ (List.getElem_mem hk)) (fun c' hc' hlt' => ?_) hput hputa (h4 rfl)
               obtain ⟨i, hi, rfl⟩ := List.getElem_of_mem hc'
               refine hI3 _ (List.mem_take_iff_getElem.2 ⟨i, ?_, rfl⟩)
               have : i < k := by
                 refine Classical.byContradiction fun hge => ?_
                 rcases Nat.lt_or_eq_of_le (Nat.le_of_not_lt hge) with h | h
                 · have := List.pairwise_iff_getElem.1 hc2 k i hk hi h; omega
                 · subst h; omega
               omega
             | false =>
               refine .inl ⟨(own', g), by simp [orR], h2, hg, fun c' hc' => ?_⟩
               rw [List.take_add_one, hck] at hc'
               rcases List.mem_append.1 hc' with h | h
               · exact hI3 c' h
               · have : c' = cuts[k] := by simpa using h
                 subst this; exact h5 rfl)
           (fun s hI => by
             obtain ⟨own, c⟩ := s
             obtain ⟨hI1, hI2, hI3⟩ := hI
             rw [List.take_length] at hI3
             exact ⟨_, by simp [search_differs_l50, io_lt, io_len], .inl ⟨own, c, rfl, hI1, hI2, bad_of_cuts halt hc4 hI3⟩⟩)
           (failed, facts) ⟨hM, fun _ _ => rfl, fun c hc => by simp at hc⟩
         simp only [ht, Option.bind_some]
         rcases hQ with ⟨own, c, rfl, hm, hcj, hbad⟩ | ⟨own, g, rfl, hm, hf⟩
         · simp only [pixG_some halt, Option.bind_some]
           refine ⟨false, _, _, rfl, fun a' alive' ha' hal' hl' => ?_, fun j hj => ?_, (fun h => by cases h), fun _ => hbad⟩
           · rw [mlookD_mputG] at hl'
             split at hl'
             · rename_i he
               have hsz := F.zs
               obtain ⟨rfl, rfl⟩ := keyS_inj ha' halt (fun i hi => by have := hal' i hi; omega) (fun i hi => by have := hal i hi; omega) he
               exact hbad
             · exact hm a' alive' ha' hal' hl'
           · rw [A10.get_put _ _ _ _ halt (by omega), if_neg (by omega)]; exact hcj j hj
         · exact ⟨true, g, own, rfl, hm, hf.pre, fun _ => hf, (fun h => by cases h)⟩
end
end Go.SX.Cl
namespace Go.SX.Cl
open Go Go.SX Go.SX.ClP
section
variable (fd : Finder) (need : List Int) 
theorem all_accept (n : Nat) (hn : n ≤ 1000000) : whileG (least_accept_l2 (List.replicate n (0 : Int))) (List.replicate n (0 : Int), 0) = some (ints (List.range n)) := by
 obtain ⟨t, h1, h2⟩ := loop_up (step := least_accept_l2 (List.replicate n (0 : Int))) (fun (s : List Int) i => (s, i)) n (fun k s => s = ints (List.range k) ++ List.replicate (n - k) 0) (fun t => t = ints (List.range n))
   (fun k s hk hI => by
     subst hI
     refine .inl ⟨_, ?_, rfl⟩
     have hlt : (k : Int) < (List.replicate n (0 : Int)).length := by simp; omega
     have hlen : (ints (List.range k) ++ List.replicate (n - k) (0 : Int)).length = n := by simp [ints]; omega
     have h1 : rixG (ints (List.range k) ++ List.replicate (n - k) (0 : Int)) (k : Int) = some k := by
       unfold rixG; rw [if_pos (by rw [hlen]; omega)]; simp
     have h2 : updG (ints (List.range k) ++ List.replicate (n - k) (0 : Int)) k (fun _ => (k : Int)) = some (ints (List.range (k + 1)) ++ List.replicate (n - (k + 1)) 0) := by
       unfold updG
       have : (ints (List.range k) ++ List.replicate (n - k) (0 : Int))[k]? = some 0 := by
         rw [List.getElem?_append_right (by simp [ints])]
         simp only [ints, List.length_map, List.length_range, Nat.sub_self]; rw [List.getElem?_replicate, if_pos (by omega)]
       rw [this]
       simp only [Option.some.injEq]
       rw [List.set_append_right _ _ (by simp [ints])]
       rw [show n - k = (n - (k + 1)) + 1 by omega, List.replicate_succ]
       simp [ints, List.range_succ]
     simp only [least_accept_l2, io_lt, io_len, hlt, decide_true, cond_true, h1, h2, Option.bind_some, io_add, wr_up (k := k) (by omega)])
   (fun s hI => by
     subst hI
     refine ⟨_, ?_, rfl⟩
     simp [least_accept_l2, io_lt, io_len]) (List.replicate n 0) (by simp [ints])
 rw [h1, h2]
variable {fd need }
theorem least_accept_ok {Wt : List Nat → Bool} (F : Fit_accept fd need Wt) : ∃ g b, least_accept_b fd need = some (g, b) ∧
   (b = true → win (fL fd) (fH fd) 0 g.get ∧ good (zrule fd) need Wt (zof fd g 10) ∧ ∀ f : A10 Int, win (fL fd) (fH fd) 0 f.get → lexLt 0 f.get g.get → ¬ good (zrule fd) need Wt (zof fd f 10)) ∧
   (b = false → g = ⟨0, 0, 0, 0, 0, 0, 0, 0, 0, 0⟩ ∧ ∀ f : A10 Int, win (fL fd) (fH fd) 0 f.get → ¬ good (zrule fd) need Wt (zof fd f 10)) := by
 have hz := F.zs
 have h1 : mksG (io.len (W eRanged fd.zones)) (0 : Int) = some (List.replicate fd.zones.length 0) := by
   rw [io_len]; unfold mksG; rw [if_pos (by omega)]; simp
 obtain ⟨b, g, failed', h2, _, _, h3, h4⟩ := search_accept_ok F 11 0 ⟨0, 0, 0, 0, 0, 0, 0, 0, 0, 0⟩ [] rfl (by omega) (fun a alive _ _ h => by simp [mlookD, mlook] at h)
 rw [zof_zero] at h2 h3 h4
 have h00 : ((0 : Nat) : Int) = 0 := rfl
 rw [h00] at h2
 simp only [least_accept_b, h1, Option.bind_some, all_accept fd.zones.length hz, h2, io_not]
 cases b with
 | true =>
   refine ⟨g, true, rfl, fun _ => ?_, (fun h => by cases h)⟩
   have hf := h3 rfl
   refine ⟨hf.win, by have := hf.good; rwa [zof_fin] at this, fun f hw hl => ?_⟩
   have := hf.least f.get hw hl
   rwa [zof_fin] at this
 | false =>
   refine ⟨_, false, rfl, (fun h => by cases h), fun _ => ⟨rfl, fun f hw => ?_⟩⟩
   have := h4 rfl f.get hw
   rwa [zof_fin] at this
end
section
variable (fd : Finder) (need : List Int) (fe : Finder) (less : Policy)
theorem all_differs (n : Nat) (hn : n ≤ 1000000) : whileG (least_differs_l2 (List.replicate n (0 : Int))) (List.replicate n (0 : Int), 0) = some (ints (List.range n)) := by
 obtain ⟨t, h1, h2⟩ := loop_up (step := least_differs_l2 (List.replicate n (0 : Int))) (fun (s : List Int) i => (s, i)) n (fun k s => s = ints (List.range k) ++ List.replicate (n - k) 0) (fun t => t = ints (List.range n))
   (fun k s hk hI => by
     subst hI
     refine .inl ⟨_, ?_, rfl⟩
     have hlt : (k : Int) < (List.replicate n (0 : Int)).length := by simp; omega
     have hlen : (ints (List.range k) ++ List.replicate (n - k) (0 : Int)).length = n := by simp [ints]; omega
     have h1 : rixG (ints (List.range k) ++ List.replicate (n - k) (0 : Int)) (k : Int) = some k := by
       unfold rixG; rw [if_pos (by rw [hlen]; omega)]; simp
     have h2 : updG (ints (List.range k) ++ List.replicate (n - k) (0 : Int)) k (fun _ => (k : Int)) = some (ints (List.range (k + 1)) ++ List.replicate (n - (k + 1)) 0) := by
       unfold updG
       have : (ints (List.range k) ++ List.replicate (n - k) (0 : Int))[k]? = some 0 := by
         rw [List.getElem?_append_right (by simp [ints])]
         simp only [ints, List.length_map, List.length_range, Nat.sub_self]; rw [List.getElem?_replicate, if_pos (by omega)]
       rw [this]
       simp only [Option.some.injEq]
       rw [List.set_append_right _ _ (by simp [ints])]
       rw [show n - k = (n - (k + 1)) + 1 by omega, List.replicate_succ]
       simp [ints, List.range_succ]
     simp only [least_differs_l2, io_lt, io_len, hlt, decide_true, cond_true, h1, h2, Option.bind_some, io_add, wr_up (k := k) (by omega)])
   (fun s hI => by
     subst hI
     refine ⟨_, ?_, rfl⟩
     simp [least_differs_l2, io_lt, io_len]) (List.replicate n 0) (by simp [ints])
 rw [h1, h2]
variable {fd need fe less}
theorem least_differs_ok {Wt : List Nat → Bool} (F : Fit_differs fd need fe less Wt) : ∃ g b, least_differs_b fd need fe less = some (g, b) ∧
   (b = true → win (fL fd) (fH fd) 0 g.get ∧ good (zrule fd) need Wt (zof fd g 10) ∧ ∀ f : A10 Int, win (fL fd) (fH fd) 0 f.get → lexLt 0 f.get g.get → ¬ good (zrule fd) need Wt (zof fd f 10)) ∧
   (b = false → g = ⟨0, 0, 0, 0, 0, 0, 0, 0, 0, 0⟩ ∧ ∀ f : A10 Int, win (fL fd) (fH fd) 0 f.get → ¬ good (zrule fd) need Wt (zof fd f 10)) := by
 have hz := F.zs
 have h1 : mksG (io.len (W eRanged fd.zones)) (0 : Int) = some (List.replicate fd.zones.length 0) := by
   rw [io_len]; unfold mksG; rw [if_pos (by omega)]; simp
 obtain ⟨b, g, failed', h2, _, _, h3, h4⟩ := search_differs_ok F 11 0 ⟨0, 0, 0, 0, 0, 0, 0, 0, 0, 0⟩ [] rfl (by omega) (fun a alive _ _ h => by simp [mlookD, mlook] at h)
 rw [zof_zero] at h2 h3 h4
 have h00 : ((0 : Nat) : Int) = 0 := rfl
 rw [h00] at h2
 simp only [least_differs_b, h1, Option.bind_some, all_differs fd.zones.length hz, h2, io_not]
 cases b with
 | true =>
   refine ⟨g, true, rfl, fun _ => ?_, (fun h => by cases h)⟩
   have hf := h3 rfl
   refine ⟨hf.win, by have := hf.good; rwa [zof_fin] at this, fun f hw hl => ?_⟩
   have := hf.least f.get hw hl
   rwa [zof_fin] at this
 | false =>
   refine ⟨_, false, rfl, (fun h => by cases h), fun _ => ⟨rfl, fun f hw => ?_⟩⟩
   have := h4 rfl f.get hw
   rwa [zof_fin] at this
end
end Go.SX.Cl
