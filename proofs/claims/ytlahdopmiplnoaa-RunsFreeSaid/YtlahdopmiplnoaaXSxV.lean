/-
  Contracts that were proved elsewhere, beside what is owned; slices of ints as the library's contracts want them.
-/
import Derived.Test.YtlahdopmiplnoaaXSxU
namespace Go.SX
open Go Go.RowKit

theorem SCall.ofRowG {P : Program} {f : FuncId} {own : List Res} {args : List SV} {ty sz : Nat} {es : List (List D)} (ho : okFn P f = true) (hd : ∀ ds ∈ es, ds.length = sz)
    (h : ∀ (c : Cx) (w : World) (us : List Value), Sat c own w → RelL c args us → Calls P f us.toArray w fun e w' => ∃ v xs, e = .returned v ∧ w'.ownsRow w.heap.size ty sz v es.length xs ∧ Below w.heap.size w w' ∧
      ∀ (j : Nat) d, es.flatten[j]? = some d → ∃ u, xs[j]? = some u ∧ Rep c.F u d) :
    SCall P f own args (fun sv own' => sv = .hd own.length ∧ own' = own ++ [.row ty sz es]) := by
  refine ⟨ho, fun c w us hS hr => (h c w us hS hr).mono ?_⟩
  rintro e w' ⟨v, xs, rfl, hrow, hb, hx⟩
  have hv1 : v.oneCell' = true := by rcases hrow.2 with ⟨rfl, _⟩ | ⟨g, cap, cur, rfl, _⟩ <;> rfl
  have hrow0 : w'.ownsRow 0 ty sz v es.length xs := by
    refine ⟨hrow.1, ?_⟩
    rcases hrow.2 with h | ⟨g, cap, cur, h1, _, h3⟩
    · exact .inl h
    · exact .inr ⟨g, cap, cur, h1, Nat.zero_le _, h3⟩
  obtain ⟨k1, k2, k3⟩ := hS.push (w' := w') none own rfl (fun s y hy => .inr ⟨hy, fun _ b hb => by cases hb⟩) (fun b hb => by cases hb) hb.os hb.tape hb.output hb.size (fun b hb' _ => hb.block b hb') v (.row ty sz es) hv1
    (fun b hb' => by
      rcases hrow.2 with ⟨rfl, _⟩ | ⟨g, cap, cur, rfl, hg, _⟩
      · simp [blkOf] at hb'
      · simp [blkOf] at hb'; subst hb'; exact .inl hg)
    ⟨hd, xs, hrow0, fun j d hj => let ⟨u, h1, h2⟩ := hx j d hj; ⟨u, h1, h2.mono (c.push_le _).f⟩⟩
  refine ⟨c.push v, _, .hd own.length, v, rfl, .hd (by simp [Cx.push, hS.n]) (by simp [Cx.push, hS.n]), k1, k2, k3, rfl, rfl⟩

theorem Rep.ints {F : Fz} {v : Value} {zs : List Int} {w : World} (h : Rep F v (.sl (zs.map dI))) (hle : ∀ b o, F b = some o → w.heap[b]? = some o) :
    (∃ a cap, v = .slice a 0 cap ∧ zs = []) ∨ ∃ b off cap, v = .slice (some ⟨b, off, none⟩) zs.length cap ∧ b < w.heap.size ∧ ∀ j, j < zs.length → w.cell? ⟨b, off + j, none⟩ = some (.int .i64 (zs[j]?.getD 0)) := by
  generalize hes : zs.map dI = es at h
  cases h with
  | nil a cap h => exact .inl ⟨a, cap, rfl, by simpa using hes⟩
  | sl b off cap cs e fr es sz g hF hcap hsz hc hr =>
    subst hes
    by_cases h0 : zs = []
    · subst h0; exact .inl ⟨_, cap, rfl, rfl⟩
    · right
      have hb := hle _ _ hF
      have hsz1 : sz = 1 := by
        obtain ⟨x, zs', rfl⟩ := List.exists_cons_of_ne_nil h0
        exact (hsz 0 (dI x) (by simp)).symm
      subst hsz1
      refine ⟨b, off, cap, by simp, (Array.getElem?_eq_some_iff.1 hb).1, fun j hj => ?_⟩
      have h1 := hc j (dI zs[j]) 0 (.val (.int .i64 zs[j])) (by simp [hj]) rfl
      have h2 := Rep.val_iff.1 (hr j (dI zs[j]) 0 (.val (.int .i64 zs[j])) (by simp [hj]) rfl)
      rw [h2.1] at h1
      simp only [Nat.mul_one, Nat.add_zero] at h1
      simp [World.cell?, hb, h1, hj]

theorem intsX {zs : List Int} {F : Fz} {xs : List Value} (hx : xs = zs.map (Value.int .i64)) : ∀ (j : Nat) d, (zs.map dI).flatten[j]? = some d → ∃ u, xs[j]? = some u ∧ Rep F u d := by
  intro j d hj
  have : (zs.map dI).flatten = zs.map fun z => D.val (.int .i64 z) := by
    clear hj hx
    induction zs with
    | nil => rfl
    | cons z zs ih => simp only [List.map_cons, List.flatten_cons, ih]; rfl
  rw [this, List.getElem?_map, Option.map_eq_some_iff] at hj
  obtain ⟨z, hz, rfl⟩ := hj
  exact ⟨.int .i64 z, by rw [hx, List.getElem?_map, hz]; rfl, .val _ rfl⟩

end Go.SX
