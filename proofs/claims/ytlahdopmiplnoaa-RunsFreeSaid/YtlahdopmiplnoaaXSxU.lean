/-
  Contracts that were proved elsewhere: a function that gives back a new slice.
-/
import Derived.Test.YtlahdopmiplnoaaXSxT
import Derived.Below
namespace Go.SX
open Go Go.RowKit

theorem SCall.ofRow {P : Program} {f : FuncId} {args : List SV} {ty sz : Nat} {es : List (List D)} (ho : okFn P f = true) (hd : ∀ ds ∈ es, ds.length = sz)
    (h : ∀ (c : Cx) (w : World) (us : List Value), RelL c args us → (∀ b o, c.F b = some o → w.heap[b]? = some o) → Calls P f us.toArray w fun e w' => ∃ v xs, e = .returned v ∧ w'.ownsRow w.heap.size ty sz v es.length xs ∧ Below w.heap.size w w' ∧
      ∀ (j : Nat) d, es.flatten[j]? = some d → ∃ u, xs[j]? = some u ∧ Rep c.F u d) :
    SCall P f [] args (fun sv own' => sv = .hd 0 ∧ own' = [.row ty sz es]) := by
  refine ⟨ho, fun c w us hS hr => (h c w us hr hS.le).mono ?_⟩
  rintro e w' ⟨v, xs, rfl, hrow, hb, hx⟩
  have hN : c.N = 0 := hS.n.symm
  have hv1 : v.oneCell' = true := by rcases hrow.2 with ⟨rfl, _⟩ | ⟨g, cap, cur, rfl, _⟩ <;> rfl
  have hrow0 : w'.ownsRow 0 ty sz v es.length xs := by
    refine ⟨hrow.1, ?_⟩
    rcases hrow.2 with h | ⟨g, cap, cur, h1, _, h3⟩
    · exact .inl h
    · exact .inr ⟨g, cap, cur, h1, Nat.zero_le _, h3⟩
  obtain ⟨k1, k2, k3⟩ := hS.push (w' := w') none [] rfl (fun s y hy => by simp at hy) (fun b hb => by cases hb) hb.os hb.tape hb.output hb.size (fun b hb' _ => hb.block b hb') v (.row ty sz es) hv1
    (fun b hb' => by
      rcases hrow.2 with ⟨rfl, _⟩ | ⟨g, cap, cur, rfl, hg, _⟩
      · simp [blkOf] at hb'
      · simp [blkOf] at hb'; subst hb'; exact .inl hg)
    ⟨hd, xs, hrow0, fun j d hj => let ⟨u, h1, h2⟩ := hx j d hj; ⟨u, h1, h2.mono (c.push_le _).f⟩⟩
  refine ⟨c.push v, _, .hd 0, v, rfl, .hd (by simp [Cx.push]) (by simp [Cx.push, hN]), k1, k2, k3, rfl, rfl⟩

end Go.SX
