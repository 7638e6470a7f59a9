/- Parts of the proof. -/
import Derived.Test.YtllbabjgpdmblaaDoorZTbB
set_option linter.unusedSimpArgs false
set_option linter.unusedVariables false
set_option linter.unusedSectionVars false
namespace Tb
set_option linter.unusedSectionVars false
section
variable {kids : Nat → List Nat} {lv : Nat → Nat} {N : Nat}
structure WalkOk (kids : Nat → List Nat) (N : Nat) (o r : List Nat) : Prop where
 pre : ∃ l, r = o ++ l
 clo : ∀ y ∈ r, y ∈ o ∨ ∀ k ∈ kids y, k ∈ r
 nod : o.Nodup → r.Nodup
 lt : ∀ y ∈ r, y ∈ o ∨ y < N
theorem WalkOk.sub {o r : List Nat} (h : WalkOk kids N o r) : ∀ y ∈ o, y ∈ r := by
 obtain ⟨l, hl⟩ := h.pre
 intro y hy; rw [hl]; exact List.mem_append_left _ hy
theorem WalkOk.trans {o r s : List Nat} (h : WalkOk kids N o r) (k : WalkOk kids N r s) : WalkOk kids N o s where
 pre := by obtain ⟨a, ha⟩ := h.pre; obtain ⟨b, hb⟩ := k.pre; exact ⟨a ++ b, by rw [hb, ha, List.append_assoc]⟩
 clo y hy := by
  rcases k.clo y hy with h1 | h1
  ·rcases h.clo y h1 with h2 | h2
   ·exact .inl h2
   ·exact .inr fun x hx => k.sub x (h2 x hx)
  ·exact .inr h1
 nod ho := k.nod (h.nod ho)
 lt y hy := by
  rcases k.lt y hy with h1 | h1
  ·exact h.lt y h1
  ·exact .inr h1
theorem walk_ok (hk : ∀ x, x < N → ∀ k ∈ kids x, k < N ∧ lv x < lv k) : ∀ (n x : Nat) (o : List Nat), x < N → 10 < n + lv x → lv x ≤ 10 → (∀ x, x < N → lv x ≤ 10) → WalkOk kids N o (walk kids n x o) ∧ x ∈ walk kids n x o
 | 0, x, o, hx, h1, h2, _ => by omega
 | n + 1, x, o, hx, h1, h2, hlv => by
  simp only [walk]
  by_cases hm : x ∈ o
  ·rw [if_pos hm]
   exact ⟨⟨⟨[], by simp⟩, fun y hy => .inl hy, fun h => h, fun y hy => .inl hy⟩, hm⟩
  ·rw [if_neg hm]
   have fold : ∀ (l o : List Nat), (∀ k ∈ l, k < N ∧ lv x < lv k) → WalkOk kids N o (l.foldl (fun o k => walk kids n k o) o) ∧ ∀ k ∈ l, k ∈ l.foldl (fun o k => walk kids n k o) o := by
    intro l
    induction l with
    | nil => exact fun o _ => ⟨⟨⟨[], by simp⟩, fun y hy => .inl hy, fun h => h, fun y hy => .inl hy⟩, by simp⟩
    | cons k l ih =>
     intro o hl
     obtain ⟨k1, k2⟩ := hl k (by simp)
     obtain ⟨w1, w2⟩ := walk_ok hk n k o k1 (by omega) (hlv k k1) hlv
     obtain ⟨f1, f2⟩ := ih (walk kids n k o) (fun k' hk' => hl k' (by simp [hk']))
     simp only [List.foldl_cons]
     refine ⟨w1.trans f1, fun k' hk' => ?_⟩
     rcases List.mem_cons.1 hk' with rfl | hk'
     ·exact f1.sub _ w2
     ·exact f2 k' hk'
   obtain ⟨f1, f2⟩ := fold (kids x) (o ++ [x]) (hk x hx)
   refine ⟨⟨?_, fun y hy => ?_, fun ho => f1.nod ?_, fun y hy => ?_⟩, f1.sub x (by simp)⟩
   ·obtain ⟨l, hl⟩ := f1.pre
    exact ⟨x :: l, by rw [hl]; simp⟩
   ·rcases f1.clo y hy with h | h
    ·rcases List.mem_append.1 h with h | h
     ·exact .inl h
     ·simp at h; subst h; exact .inr f2
    ·exact .inr h
   ·rw [List.nodup_append]
    exact ⟨ho, by simp, fun a ha b hb e => hm (by simp at hb; rw [← hb, ← e]; exact ha)⟩
   ·rcases f1.lt y hy with h | h
    ·rcases List.mem_append.1 h with h | h
     ·exact .inl h
     ·simp at h; subst h; exact .inr hx
    ·exact .inr h
end
section
variable {δ : Type} [Inhabited δ] [DecidableEq δ] {L : Lim} {t : Tab δ}
def pos (O : List Nat) (x : Nat) : Nat := (idx O x).getD 0
def ren (t : Tab δ) (ps : Nat → Nat) : List Nat → Nat → List Nd
 | [], _ => []
 | x :: l, k => if (t.nd x).kids = [] then ⟨(t.nd x).attr, (t.nd x).cuts, [], k⟩ :: ren t ps l (k + 1) else ⟨(t.nd x).attr, (t.nd x).cuts, (t.nd x).kids.map ps, (t.nd x).leaf⟩ :: ren t ps l k
theorem len_le {α : Type} [DecidableEq α] : ∀ {l m : List α}, l.Nodup → (∀ x ∈ l, x ∈ m) → l.length ≤ m.length
 | [], _, _, _ => Nat.zero_le _
 | a :: l, m, h, hs => by
  rw [List.nodup_cons] at h
  have ha := hs a (by simp)
  have := len_le (l := l) (m := m.erase a) h.2 fun x hx => (List.mem_erase_of_ne (fun e => h.1 (by rw [← e]; exact hx))).2 (hs x (by simp [hx]))
  rw [List.length_erase_of_mem ha] at this
  have := List.length_pos_of_mem ha
  simp only [List.length_cons]; omega
def subs {α : Type} : List α → List (List α)
 | [] => [[]]
 | a :: l => subs l ++ (subs l).map (a :: ·)
theorem subs_len {α : Type} : ∀ l : List α, (subs l).length = 2 ^ l.length
 | [] => rfl
 | a :: l => by simp [subs, subs_len l, Nat.pow_succ]; omega
theorem mem_subs {α : Type} {l m : List α} (h : l.Sublist m) : l ∈ subs m := by
 induction h with
 | slnil => simp [subs]
 | cons a _ ih => exact List.mem_append_left _ ih
 | cons_cons a _ ih => exact List.mem_append_right _ (List.mem_map.2 ⟨_, ih, rfl⟩)
theorem Inv.fewer {p : Prob δ} {D : List Nat → δ} {b : Bs δ} {s : Nat} (h : Inv L p D b s) (Cs : Nat → List (List Nat)) (M : Nat) (hC : ∀ a l, a ≤ 10 → p.Can a l → l ∈ Cs a) (hM : ∀ a, a ≤ 10 → (Cs a).length ≤ M) : b.tab.ns.length ≤ 11 * M + s ∧ b.tab.ls.length ≤ M := by
 have h1 : b.tab.ls.length ≤ (Cs 10).length := by
  have := len_le (l := b.tab.ls) (m := (Cs 10).map D) h.ok.ldup fun d hd => by
   obtain ⟨live, k1, k2⟩ := h.dec d hd
   exact List.mem_map.2 ⟨live, hC _ _ (Nat.le_refl _) k1, k2.symm⟩
  rwa [List.length_map] at this
 have h2 : b.made.length ≤ 10 * M := by
  have := len_le (l := b.made.map (·.1)) (m := (List.range 10).flatMap fun a => (Cs a).map fun l => (a, l)) h.keys fun k hk => by
   obtain ⟨⟨⟨a, live⟩, n⟩, hm, rfl⟩ := List.mem_map.1 hk
   obtain ⟨k1, k2, k3, k4, k5⟩ := h.made a live n hm
   exact List.mem_flatMap.2 ⟨a, List.mem_range.2 k3, List.mem_map.2 ⟨live, hC _ _ (by omega) k4, rfl⟩⟩
  rw [List.length_map, List.length_flatMap] at this
  simp only [List.length_map] at this
  have e : ((List.range 10).map fun a => (Cs a).length).sum ≤ 10 * M := by
   have := hM 0 (by omega); have := hM 1 (by omega); have := hM 2 (by omega); have := hM 3 (by omega); have := hM 4 (by omega)
   have := hM 5 (by omega); have := hM 6 (by omega); have := hM 7 (by omega); have := hM 8 (by omega); have := hM 9 (by omega)
   simp [List.range, List.range.loop]; omega
  omega
 have := h.size
 have := hM 10 (Nat.le_refl _)
 exact ⟨by omega, by omega⟩
theorem Inv.few {p : Prob δ} {D : List Nat → δ} {b : Bs δ} {s : Nat} (h : Inv L p D b s) : b.tab.ns.length ≤ 11 * 2 ^ p.nz + s ∧ b.tab.ls.length ≤ 2 ^ p.nz :=
 h.fewer (fun _ => subs (List.range p.nz)) _ (fun a l _ ⟨_, e⟩ => mem_subs (e ▸ List.filter_sublist)) fun a _ => by rw [subs_len, List.length_range]; exact Nat.le_refl _
end
end Tb
