/- Parts of the proof. -/
import Derived.Test.YtllbabjgpdmblaaZClT
import Derived.Shelf.SlicesE.Delete
set_option linter.unusedSimpArgs false
set_option linter.unusedVariables false
namespace Go.SX.Cl
open Go Go.SX Go.Proofs Go.Shelf Go.RowKit Go.Lib Go.Sort
set_option maxRecDepth 1000000
theorem del_same (ad : Option Addr) (n cap i : Nat) (w : World) (hi : i ≤ n) (hn : n ≤ cap) (hm : cap ≤ 9223372036854775807) :
   Calls Try.prog 53 #[.slice ad n cap, .int .i64 i, .int .i64 i] w fun e w' => e = .returned (.slice ad n cap) ∧ w' = w := by
 go_enter Try.func53, Try.ntmps53
 go_wp2
 all_goals (go_ret; exact ⟨rfl, rfl⟩)
theorem step_append_row {P : Program} {ops : Array Oper} {o : Oper} {a : Act} {w : World} {K : Act → World → Prop} {Q : Exit → Act → World → Prop} {E : Prop}
   (hg : o.guard = none) (s x : Operand) (t : TypeId) (hop : o.op = Op.call { callee := Callee.builtin Builtin.append, args := #[s, x], argTypes := #[t, t] })
   (e : TypeId) (i : TypeInfo) (size : Nat) (h1 : P.underlying t = some (.slice e)) (h2 : P.info? e = some i) (h4 : i.size = size)
   (b n cap : Nat) (hs : a.eval s = .slice (some ⟨b, 0, none⟩) n cap) (cur : Array Value) (hb : w.heap[b]? = some (.cells cur e (0, 0)))
   (ad : Addr) (m c : Nat) (news : List Value) (hx : a.eval x = .slice (some ad) m c) (hn : news.length = m * size) (hc : ∀ j u, news[j]? = some u → w.cell? (ad.add j) = some u) (h1c : ∀ u ∈ news, u.oneCell' = true)
   (hroom : n + m ≤ cap) (hfit : n * size + news.length ≤ cur.size)
   (hK : K (a.put o.dst (.slice (some ⟨b, 0, none⟩) (n + m) cap)) (w.setRow b (cur.toList.take (n * size) ++ news ++ cur.toList.drop (n * size + news.length)).toArray)) :
   if Region.wanted o (yielded ops a.tmps) = true then Oper.wp P o a w K Q else E := by
 have hw : Region.wanted o (yielded ops a.tmps) = true := by simp [Region.wanted, hg]
 rw [if_pos hw]
 subst h4
 have hrun := run_append_room (P := P) w t o.type e i h1 h2 b n cap cur hb ad m c news hn hc h1c hroom hfit
 unfold Oper.wp
 simp [execOp, hop, resolve, invoke, builtin, hs, hx, hrun, Result.andThen]
 rw [List.append_assoc] at hK
 exact hK
theorem run_clear_row {P : Program} {t e : TypeId} {z : Value} {sz : Nat} (w : World) (ht : P.underlying t = some (.slice e)) (hz : ∀ w, (zeroValue e).run P w = .ok z w) (hsz : z.cells.size = sz) (hone : ∀ v ∈ z.cells.toList, v.oneCell' = true)
   (b i n c : Nat) (hn : 0 < n) (cur : Array Value) (hb : w.heap[b]? = some (.cells cur e (0, 0))) (hfit : i * sz + n * sz ≤ cur.size) (hpos : 0 < sz) :
   ∃ cur', (∀ ty', (Builtin.clear_ #[t] ty' #[.slice (some ⟨b, i * sz, none⟩) n c]).run P w = .ok (.tuple #[]) (w.setRow b cur')) ∧ cur'.size = cur.size ∧ cur'.toList.take (i * sz) = cur.toList.take (i * sz) := by
 have hzc : (Builtin.zeroCells z.cells n).toList.length = n * sz := by simp [Builtin.zeroCells, hsz]
 have hzone : ∀ v ∈ (Builtin.zeroCells z.cells n).toList, v.oneCell' = true := fun v hv => by
   simp only [Builtin.zeroCells, Array.toList_map, Array.toList_range, List.mem_map, List.mem_range, hsz] at hv
   obtain ⟨j, hj, rfl⟩ := hv
   have hjm : j % sz < z.cells.size := by rw [hsz]; exact Nat.mod_lt _ hpos
   rw [getElem!_pos z.cells (j % sz) hjm]
   exact hone _ (by simp)
 have hst := run_storeCells_at P b (i * sz) e (Builtin.zeroCells z.cells n).toList 0 cur w hb (by rw [hzc]; omega) hzone
 simp only [Nat.add_zero] at hst
 obtain ⟨m, rfl⟩ : ∃ m, n = m + 1 := ⟨n - 1, by omega⟩
 refine ⟨_, fun ty' => by simp only [Builtin.clear_, List.getElem?_toArray, List.getElem?_cons_zero, Sem.run_bind, run_underlying ht, Result.andThen_ok, hz, hst, Sem.run_pure]; rfl, ?_, ?_⟩
 · simp only [List.size_toArray, List.length_append, List.length_take, List.length_drop, hzc, Array.length_toList]; omega
 · simp only [List.append_assoc]
   rw [List.take_append_of_le_length (by simp; omega), List.take_take, Nat.min_self]
theorem del_some (g n cap i j : Nat) (cur : Array Value) (w : World) (hg : w.heap[g]? = some (.cells cur 41 (0, 0))) (hn : n ≤ cap) (hm : cap ≤ 9223372036854775807) (hcs : cur.size = cap * 8)
   (h1 : ∀ v ∈ cur.toList.take (n * 8), v.oneCell' = true) (hij : i < j) (hj : j ≤ n) :
   Calls Try.prog 53 #[.slice (some ⟨g, 0, none⟩) n cap, .int .i64 i, .int .i64 j] w fun e w' => e = .returned (.slice (some ⟨g, 0, none⟩) (i + (n - j)) cap) ∧
     ∃ cur', w' = w.drew.setRow g cur' ∧ cur'.size = cur.size ∧ cur'.toList.take ((i + (n - j)) * 8) = cur.toList.take (i * 8) ++ (cur.toList.take (n * 8)).drop (j * 8) := by
 obtain ⟨news, hnews⟩ : ∃ news, news = (cur.toList.take (n * 8)).drop (j * 8) := ⟨_, rfl⟩
 have hlen : news.length = (n - j) * 8 := by rw [hnews]; simp [hcs]; omega
 obtain ⟨A, hA, hsrc⟩ : ∃ A : Addr, (if cap = j then some (⟨g, 0, none⟩ : Addr) else some ⟨g, j * 8, none⟩) = some A ∧ Hid (∀ t u, news[t]? = some u → w.drew.cell? (A.add t) = some u) := by
   by_cases h : cap = j
   · refine ⟨_, by rw [if_pos h], fun t u hu => ?_⟩
     have h0 : news.length = 0 := by rw [hlen]; omega
     rw [List.length_eq_zero_iff.1 h0] at hu
     simp at hu
   · refine ⟨_, by rw [if_neg h], fun t u hu => ?_⟩
     have hu' := hu
     rw [hnews, List.getElem?_drop, List.getElem?_take] at hu'
     split at hu'
     · rw [Array.getElem?_toList] at hu'
       show w.cell? _ = some u
       rw [Addr.add_lit]
       simp only [World.cell?, hg]
       exact hu'
     · cases hu'
 have s2 : Hid (∀ u ∈ news, u.oneCell' = true) := fun u hu => h1 u (by rw [hnews] at hu; exact List.mem_of_mem_drop hu)
 obtain ⟨cur1, hcur1⟩ : ∃ cur1, cur1 = (cur.toList.take (i * 8) ++ news ++ cur.toList.drop (i * 8 + news.length)).toArray := ⟨_, rfl⟩
 have hs1 : cur1.size = cur.size := by rw [hcur1]; simp [hlen]; omega
 obtain ⟨W1, hW1⟩ : ∃ W1, W1 = w.drew.setRow g cur1 := ⟨_, rfl⟩
 have hW1g : W1.heap[g]? = some (.cells cur1 41 (0, 0)) := by rw [hW1]; exact setRow_heap w.drew g cur _ 41 _ hg
 obtain ⟨z, hz, hzs, hzo⟩ : ∃ z, (∀ w, (zeroValue 41).run Try.prog w = .ok z w) ∧ z.cells.size = 8 ∧ ∀ v ∈ z.cells.toList, v.oneCell' = true := ⟨_, Try.zeroValue41, by kernel_rfl, by decide⟩
 obtain ⟨i0, hi0, hz1⟩ : ∃ i0, Try.prog.info? 41 = some i0 ∧ i0.size = 8 := ⟨_, rfl, by kernel_rfl⟩
 obtain ⟨cur2, hcl, hc2, hc3⟩ : ∃ cur', (∀ ty, (Builtin.clear_ #[22] ty #[.slice (some ⟨g, (i + (n - j)) * 8, none⟩) (n - (i + (n - j))) (cap - (i + (n - j)))]).run Try.prog W1 = .ok (.tuple #[]) (W1.setRow g cur')) ∧ cur'.size = cur1.size ∧ cur'.toList.take ((i + (n - j)) * 8) = cur1.toList.take ((i + (n - j)) * 8) := by
   exact run_clear_row W1 Try.underlying22 hz hzs hzo g (i + (n - j)) _ _ (by omega) cur1 hW1g (by rw [hs1, hcs]; omega) (by omega)
 have hfin : ∃ cur', W1.setRow g cur2 = w.drew.setRow g cur' ∧ cur'.size = cur.size ∧ cur'.toList.take ((i + (n - j)) * 8) = cur.toList.take (i * 8) ++ news := by
   refine ⟨cur2, by rw [hW1, setRow_setRow], by rw [hc2, hs1], ?_⟩
   rw [hc3, hcur1]
   have : (i + (n - j)) * 8 = (cur.toList.take (i * 8) ++ news).length := by simp [hlen, hcs]; omega
   rw [this]
   exact List.take_left
 have hgd : Hid (w.drew.heap[g]? = some (.cells cur 41 (0, 0))) := hg
 have hW : Hid (W1 = w.drew.setRow g cur1) := hW1
 have hX : Hid (cur1 = (cur.toList.take (i * 8) ++ news ++ cur.toList.drop (i * 8 + news.length)).toArray) := hcur1
 have hl : Hid (news.length = (n - j) * 8) := hlen
 have hfit : Hid (i * 8 + news.length ≤ cur.size) := by show i * 8 + news.length ≤ cur.size; rw [hlen, hcs]; omega
 have hF : Aside (∃ cur', W1.setRow g cur2 = w.drew.setRow g cur' ∧ cur'.size = cur.size ∧ cur'.toList.take ((i + (n - j)) * 8) = cur.toList.take (i * 8) ++ news) := hfin
 have hic : i ≤ cap := by omega
 have hjc : j ≤ cap := by omega
 rw [← hnews]
 clear hnews hlen hcur1 hW1 hg hfin hc2 hc3 hW1g hs1 hz hzo hzs h1 hcs
 have mixed : Try.prog.follows .mixedOrders = true := by kernel_rfl
 go_enter Try.func53, Try.ntmps53
 go_wp2_with fail
 go_region_law_o (refine step_append_row rfl (.tmp 22) (.tmp 25) 22 rfl 41 i0 8 Try.underlying22 hi0 hz1 g i cap (by simp [Act.eval, Act.put]) cur hgd.out A (n - j) (cap - j) news (by simp [Act.eval, Act.put]) hl.out hsrc.out s2.out (by omega) hfit.out ?_; rw [← hX.out, ← hW.out])
 go_wp2
 go_ret
 exact ⟨rfl, hF.out⟩
theorem SCall.used {P : Program} {f : FuncId} {own : List Res} {args : List SV} {s : SV} (hs : s.closed = true) (h1 : SCall P f own args (fun sv own' => nrmR (frzR own' sv) sv = s)) :
   SCall P f own args (fun sv own' => sv = s ∧ own' = own.map (fun _ => Res.gone)) := by
 have h2 : SCall P f own args (fun sv own' => sv = s) := h1.data fun _ _ h => h
 refine ⟨h2.1, fun c w us hS hr => (h2.2 c w us hS hr).mono ?_⟩
 rintro e w' ⟨c', own', sv, u, rfl, k2, k3, k4, k5, rfl⟩
 have hN : own.length ≤ own'.length := by rw [hS.n, k3.n]; exact k4.n
 have hlen : (own.map (fun _ => Res.gone)).length = c.N := by rw [List.length_map]; exact hS.n
 have hgone : ∀ (r : Nat) x, (own.map (fun _ => Res.gone))[r]? = some x → x = .gone := fun r x hx => by
   rw [List.getElem?_map, Option.map_eq_some_iff] at hx
   obtain ⟨_, _, rfl⟩ := hx; rfl
 refine ⟨{ θ := c.θ, F := c'.F, N := c.N }, _, sv, u, rfl, closed_rel (c := c') (c' := { θ := c.θ, F := c'.F, N := c.N }) (fun _ _ h => h) hs k2,
   ⟨hlen, fun r x hx => by rw [hgone r x hx]; trivial, fun r q x y b hx hy hl => by rw [hgone r x hx] at hl; simp [Res.live] at hl, fun r x b hx hl => by rw [hgone r x hx] at hl; simp [Res.live] at hl, k3.le, hS.one⟩,
   ⟨Nat.le_refl _, fun _ _ => rfl, k4.f⟩, ⟨k5.os, k5.tape, k5.output, k5.size, k5.keep, k5.newF, ?_, k5.f⟩, rfl, rfl⟩
 rintro b ⟨r, x, hx, hl, _⟩
 rw [hgone r x hx] at hl; simp [Res.live] at hl
noncomputable def delG (l : List Rule) (i j : Int) : Option (List Rule) := if 0 ≤ i ∧ i ≤ j ∧ j ≤ l.length then some (l.take i.toNat ++ l.drop j.toNat) else none
theorem ok53 : okFn Try.prog 53 = true := by kernel_rfl
theorem WR_len (l : List Rule) : ∀ ds ∈ W eRule l, ds.length = 8 := by
 rw [W_eq]; intro ds hd
 simp only [List.mem_map] at hd
 obtain ⟨x, _, rfl⟩ := hd; rfl
theorem flat_take {es : List (List D)} {sz : Nat} (h : ∀ ds ∈ es, ds.length = sz) (n : Nat) : (es.take n).flatten = es.flatten.take (n * sz) := by
 induction es generalizing n with
 | nil => simp
 | cons a l ih =>
   cases n with
   | zero => simp
   | succ n =>
     have ha := h a (by simp)
     simp only [List.take_succ_cons, List.flatten_cons]
     rw [ih (fun ds hd => h ds (List.mem_cons_of_mem _ hd)), List.take_append, ha]
     rw [List.take_of_length_le (l := a) (by rw [ha, Nat.succ_mul]; omega)]
     congr 2
     rw [Nat.succ_mul]; omega
theorem flat_drop {es : List (List D)} {sz : Nat} (h : ∀ ds ∈ es, ds.length = sz) (n : Nat) : (es.drop n).flatten = es.flatten.drop (n * sz) := by
 induction es generalizing n with
 | nil => simp
 | cons a l ih =>
   cases n with
   | zero => simp
   | succ n =>
     have ha := h a (by simp)
     simp only [List.drop_succ_cons, List.flatten_cons]
     rw [ih (fun ds hd => h ds (List.mem_cons_of_mem _ hd)), List.drop_append, ha]
     rw [List.drop_of_length_le (l := a) (by rw [ha, Nat.succ_mul]; omega), List.nil_append]
     congr 1
     rw [Nat.succ_mul]; omega
theorem delete_row (l : List Rule) (i j : Nat) (hij : i ≤ j) (hj : j ≤ l.length) :
   SCall Try.prog 53 [.row 41 8 (W eRule l)] [.hd 0, .d (.val (.int .i64 i)), .d (.val (.int .i64 j))] (fun sv own' => sv = .hd 1 ∧ own' = [.gone, .row 41 8 (W eRule (l.take i ++ l.drop j))]) := by
 refine ⟨ok53, fun c w us hS hr => ?_⟩
 obtain ⟨u, us', rfl, hu, hr⟩ := RelL.cons_iff.1 hr
 obtain ⟨u1, us', rfl, hu1, hr⟩ := RelL.cons_iff.1 hr
 obtain ⟨u2, us', rfl, hu2, hr⟩ := RelL.cons_iff.1 hr
 obtain rfl := RelL.nil_iff.1 hr
 obtain rfl := hu1.of_val
 obtain rfl := hu2.of_val
 cases hu with | hd hr0 hθ =>
 obtain ⟨hd1, xs, hown, hc⟩ := hS.res 0 _ rfl
 rw [hθ] at hown
 have hwl : (W eRule l).length = l.length := W_len _ _
 have hlen : (l.take i ++ l.drop j).length = i + (l.length - j) := by simp; omega
 have fin : ∀ (w' : World) (v : Value) (ys : List Value), w'.os = w.os → w'.tape = w.tape → w'.output = w.output → w.heap.size ≤ w'.heap.size → (∀ b, b < w.heap.size → some b ≠ blkOf u → w'.heap[b]? = w.heap[b]?) → v.oneCell' = true → blkOf v = blkOf u →
     w'.ownsRow 0 41 8 v (i + (l.length - j)) ys → ys = xs.take (i * 8) ++ xs.drop (j * 8) →
     ∃ c' own' sv u', Ending.returned v = .returned u' ∧ Rel c' sv u' ∧ Sat c' own' w' ∧ c.le c' ∧ Goes c [.row 41 8 (W eRule l)] w c' own' w' ∧ sv = .hd 1 ∧ own' = [.gone, .row 41 8 (W eRule (l.take i ++ l.drop j))] := by
   intro w' v ys h1 h2 h3 h4 h5 h6 h7 h8 h9
   obtain ⟨k1, k2, k3⟩ := hS.push (w' := w') (blkOf u) [.gone] rfl (fun s y hy => by cases s with
       | zero => simp at hy; exact .inl hy.symm
       | succ s => simp at hy) (fun b hb => ⟨0, _, rfl, rfl, by rw [hθ]; exact hb⟩) h1 h2 h3 h4 h5 v (.row 41 8 (W eRule (l.take i ++ l.drop j))) h6 (fun b hb => .inr (by rw [← h7]; exact hb))
     ⟨WR_len _, ys, by rw [W_len, hlen]; exact h8, fun q d hq => by
       have e1 : (W eRule (l.take i ++ l.drop j)).flatten = (W eRule l).flatten.take (i * 8) ++ (W eRule l).flatten.drop (j * 8) := by
         rw [← flat_take (WR_len l), ← flat_drop (WR_len l), W_eq, W_eq, List.map_append, List.flatten_append, List.map_take, List.map_drop]
       have hfl : (W eRule l).flatten.length = xs.length := by rw [flatten_len (WR_len l), hown.1]
       rw [e1] at hq
       rw [h9]
       by_cases hqi : q < ((W eRule l).flatten.take (i * 8)).length
       · rw [List.getElem?_append_left hqi] at hq
         rw [List.getElem?_append_left (by rw [List.length_take, ← hfl, ← List.length_take]; exact hqi)]
         rw [List.getElem?_take] at hq ⊢
         split at hq
         · rename_i hlt
           rw [if_pos hlt]
           obtain ⟨u, m1, m2⟩ := hc q d hq
           exact ⟨u, m1, m2.mono (c.push_le _).f⟩
         · cases hq
       · rw [List.getElem?_append_right (by omega)] at hq
         rw [List.getElem?_append_right (by rw [List.length_take, ← hfl, ← List.length_take]; omega)]
         rw [List.getElem?_drop] at hq ⊢
         obtain ⟨u, m1, m2⟩ := hc _ d hq
         refine ⟨u, ?_, m2.mono (c.push_le _).f⟩
         rw [← m1]
         congr 2
         rw [List.length_take, List.length_take, hfl]⟩
   have hN : c.N = 1 := hS.n.symm
   exact ⟨_, _, .hd 1, v, rfl, .hd (by simp [Cx.push, hN]) (by simp [Cx.push, hN]), k1, k2, k3, rfl, rfl⟩
 rcases hown.2 with ⟨rfl, h0⟩ | ⟨g, cap, cur, rfl, _, hb, hle, hm, hcs, htake⟩
 · rw [hwl] at h0
   have hi0 : i = 0 := by omega
   have hj0 : j = 0 := by omega
   subst hi0; subst hj0
   refine (del_same none 0 0 0 w (Nat.le_refl _) (Nat.le_refl _) (by omega)).mono ?_
   rintro e w' ⟨rfl, rfl⟩
   refine fin w' _ [] rfl rfl rfl (Nat.le_refl _) (fun _ _ _ => rfl) rfl rfl ?_ ?_
   · rw [h0]; exact World.ownsRow_nil w' 0 41 8
   · have : xs = [] := List.eq_nil_of_length_eq_zero (by rw [hown.1, hwl, h0])
     simp [this]
 · rw [hwl] at hle htake ⊢
   have hmx : cap ≤ 9223372036854775807 := by simp only [maxLen] at hm; omega
   by_cases hij' : i = j
   · subst hij'
     refine (del_same (some ⟨g, 0, none⟩) l.length cap i w hj hle hmx).mono ?_
     rintro e w' ⟨rfl, rfl⟩
     refine fin w' _ xs rfl rfl rfl (Nat.le_refl _) (fun _ _ _ => rfl) rfl rfl ?_ (by simp)
     rw [show i + (l.length - i) = l.length by omega]
     have := hown; rw [hwl] at this; exact this
   · have hxs : xs = cur.toList.take (l.length * 8) := htake.symm
     have h1 : ∀ v ∈ cur.toList.take (l.length * 8), v.oneCell' = true := fun v hv => by
       obtain ⟨q, hq⟩ := List.getElem?_of_mem hv
       rw [← hxs] at hq
       have hql := (List.getElem?_eq_some_iff.1 hq).1
       have hqf : q < (W eRule l).flatten.length := by rw [flatten_len (WR_len l), ← hown.1]; exact hql
       obtain ⟨u, m1, m2⟩ := hc q _ (List.getElem?_eq_getElem hqf)
       rw [hq] at m1; cases m1
       exact m2.one
     refine (del_some g l.length cap i j cur w hb hle hmx hcs h1 (by omega) hj).mono ?_
     rintro e w' ⟨rfl, cur', rfl, hs', ht'⟩
     refine fin _ _ (cur'.toList.take ((i + (l.length - j)) * 8)) rfl rfl rfl (by simp [World.setRow]) (fun b hb' hne => setRow_other w.drew g b cur' (fun e => hne (by rw [e]; rfl))) rfl rfl ?_ ?_
     · have hcl' : cur'.toList.length = cap * 8 := by rw [Array.length_toList, hs', hcs]
       refine ⟨by rw [List.length_take, hcl', Nat.min_eq_left (Nat.mul_le_mul_right 8 (by omega))], .inr ⟨g, cap, cur', rfl, Nat.zero_le _, setRow_heap w.drew g cur cur' 41 _ hb, by omega, hm, by rw [hs', hcs], rfl⟩⟩
     · rw [ht', hxs, List.take_take, Nat.min_eq_left (by omega)]
theorem slices_Delete_R {P : Program} (hP : P = Try.prog) (l : List Rule) (i j : Int) (r : List Rule) (h : delG l i j = some r) :
   SCall P 53 [.row 41 8 (W eRule l)] [.hd 0, .d (.val (.int .i64 i)), .d (.val (.int .i64 j))] (fun sv own' => sv = .d (.sl (W eRule r)) ∧ own' = [.gone]) := by
 subst hP
 unfold delG at h
 split at h
 · rename_i hb
   cases h
   obtain ⟨a, rfl⟩ := Int.eq_ofNat_of_zero_le hb.1
   obtain ⟨b, rfl⟩ := Int.eq_ofNat_of_zero_le (Int.le_trans hb.1 hb.2.1)
   refine SCall.used (own := [.row 41 8 (W eRule l)]) rfl ?_
   obtain ⟨h1, h2⟩ := delete_row l a b (by omega) (by omega)
   refine ⟨h1, fun c w us hS hr => (h2 c w us hS hr).mono ?_⟩
   rintro e w' ⟨c', own', sv, u, rfl, k2, k3, k4, k5, rfl, rfl⟩
   exact ⟨c', _, _, u, rfl, k2, k3, k4, k5, rfl⟩
 · cases h
end Go.SX.Cl
namespace Go.SX.Cl
open Go Go.SX Go.Proofs
set_option maxRecDepth 100000
def c28r0 : List GOp := [
 gv 1 (.box 32 (.tmp 0)),
 gv 2 (.mv (.const (.bool false)))]
def c28r1 : List GOp := [
 gv 2 (.mv (.const (.bool true)))]
def c28 : EFn := ⟨3, .seq (.reg c28r0) (.seq (.reg c28r1) (.ret)), [.tmp 2]⟩
theorem c28_ok : compF Try.prog 28 = some c28.er := by kernel_rfl
noncomputable def clash_accept_g (p0 : (A10 Int)) : Option (Bool) :=
 some true
set_option maxHeartbeats 4000000 in
theorem clash_accept_R {P : Program} (hP : P = Try.prog) (p0 : (A10 Int)) (r : Bool) (h : clash_accept_g p0 = some r) : Fn1 P 28 [vA10Ii64 p0] (vB r) := by
 refine .walkE (hP ▸ c28_ok) fun K hK => ?_
 unfold clash_accept_g at h
 cbv
 obtain rfl := oj h
 exact hK _ _ aw_
end Go.SX.Cl
