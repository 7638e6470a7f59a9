/-
  Runs: the elements of a list, sorted; a copy of a list.
-/
import Derived.Test.YtlahdopmiplnoaaXR11
import Derived.Test.YtlahdopmiplnoaaXYtSorted
import Derived.Test.YtlahdopmiplnoaaXSxV
namespace Go.SX.Runs
open Go Go.Proofs Go.RowKit Go.Sort
theorem ok35 : okFn Try.prog 35 = true := by kernel_rfl
theorem ok38 : okFn Try.prog 38 = true := by kernel_rfl
def sortL (l : List Int) : List Int := l.mergeSort fun x y => decide (x ≤ y)
theorem sortL_len (l : List Int) : (sortL l).length = l.length := by simp [sortL]
variable {P : Program} (hP : P = Try.prog)
include hP

theorem valuesR {es : List (List D)} : SCall P 36 [] [.d (.sl es)] (fun sv own' => sv = .clo (.func 46) [] [.ptr 0 0] ∧ own' = [.cells [.d (.sl es)] 24]) := by
  refine .walk (hP ▸ d36_ok) fun K hK => ?_
  cbv
  exact hK _ _ ⟨rfl, rfl⟩


theorem sortedR {l : List Int} {es : List (List D)} (hes : es = l.map dI) (hl : l.length ≤ 1000000000) :
    SCall P 35 [.cells [.d (.sl es)] 24] [.clo (.func 46) [] [.ptr 0 0]] (fun sv own' => sv = .d (.sl ((sortL l).map dI)) ∧ own' = [.cells [.d (.sl es)] 24, .fz ((sortL l).map dI)]) := by
  subst hP; subst hes
  refine SCall.data (SCall.ofRowG (ty := 3) (sz := 1) (es := (sortL l).map dI) ok35 (by simp [dI]) ?_) ?_
  · intro c w us hS hr
    obtain ⟨u, us', rfl, hu, hn⟩ := RelL.cons_iff.1 hr
    obtain rfl := RelL.nil_iff.1 hn
    obtain ⟨fs, vs, rfl, hf, hv⟩ := Rel.clo_iff.1 hu
    obtain rfl := RelL.nil_iff.1 hf
    obtain ⟨u2, us2, rfl, hu2, hn2⟩ := RelL.cons_iff.1 hv
    obtain rfl := RelL.nil_iff.1 hn2
    cases hu2 with
    | ptr hr0 hθ =>
      rename_i b
      obtain ⟨b', xs, h1, h2, h3, h4⟩ := hS.res 0 _ rfl
      rw [hθ] at h1; cases h1
      obtain ⟨x, hx, _, hxr⟩ := h4 0 _ rfl
      have hxs : xs = #[x] := by
        simp at h3
        apply Array.ext
        · simp [h3]
        · intro i hi hi2
          simp at hi2; subst hi2
          rw [Array.getElem?_eq_getElem hi] at hx; simpa using hx
      subst hxs
      have hbl := (Array.getElem?_eq_some_iff.1 h2).1
      have hc0 : w.cell? ⟨b, 0, none⟩ = some x := by simp [World.cell?, h2]
      cases hxr with
      | d hrep =>
        have hseq : SeqKept Fence.wide 2 Try.prog 46 #[.pointer (some ⟨b, 0, none⟩)] l w := fun k J W hJ hY h0 => by
          rcases hrep.ints hS.le with ⟨a, cap, rfl, rfl⟩ | ⟨b2, off, cap, rfl, hb2, hcs⟩
          · exact Try.values1_nil_in Fence.wide 2 trivial rfl k b a cap J W (((hJ _ _ h0).cell (p := ⟨b, 0, none⟩) hbl).trans hc0) h0
          · exact Try.values1_in Fence.wide 2 trivial rfl (by omega) k b b2 off cap l (by omega) J w hJ hb2 hbl hY W hc0 hcs h0
        have hsorts : AnyZI.SortsIn Try.prog Try.sorted35_ren Fence.wide 4 :=
          ⟨fun blk off cap ss W hH hblk hsz => callsIn_wide.2 (Try.slices_Sort_int blk off cap ss W hH hblk hsz), fun p cap W => callsIn_wide.2 (Try.slices_Sort_int_none p cap W)⟩
        have := Try.sorted_in Try.sorted35 Fence.wide 5 trivial trivial trivial trivial rfl (by omega) hsorts (enters_of Try.func45 (by kernel_rfl) rfl) 46 #[.pointer (some ⟨b, 0, none⟩)] trivial (enters_of Try.func46 (by kernel_rfl) rfl) l (by simp [maxLen]; omega) (by omega) w hseq
        refine (callsIn_wide.1 this).mono ?_
        rintro e w' ⟨v, rfl, hrow, _, hb⟩
        exact ⟨v, _, rfl, by rw [List.length_map, sortL_len]; exact hrow, hb, intsX rfl⟩
  · rintro sv own' ⟨rfl, rfl⟩
    exact ⟨rfl, rfl⟩

theorem cloneR {l : List Int} {es : List (List D)} (hes : es = l.map dI) (hl : l.length ≤ 1000000000) : SCall P 38 [] [.d (.sl es)] (fun sv own' => sv = .hd 0 ∧ own' = [.row 3 1 (l.map dI)]) := by
  subst hP; subst hes
  refine SCall.ofRowG (own := []) ok38 (by simp [dI]) ?_
  intro c w us hS hr
  obtain ⟨u, us', rfl, hu, hn⟩ := RelL.cons_iff.1 hr
  obtain rfl := RelL.nil_iff.1 hn
  cases hu with
  | d hrep =>
    rcases hrep.ints hS.le with ⟨a, cap, rfl, rfl⟩ | ⟨b, off, cap, rfl, hb, hcs⟩
    · cases a with
      | none =>
        refine (Try.slices_Clone_int_nil 0 cap w).mono ?_
        rintro e w' ⟨rfl, rfl⟩
        exact ⟨_, [], rfl, World.ownsRow_nil _ _ _ _, .refl _ _, by simp⟩
      | some a =>
        refine (Try.slices_Clone_int_zero a cap w).mono ?_
        rintro e w' ⟨v, rfl, hrow, _, hb⟩
        exact ⟨_, [], rfl, hrow, hb, by simp⟩
    · refine (Try.slices_Clone_int b off l.length cap l w (Nat.le_refl _) (by omega) (by simpa [List.getD_eq_getElem?_getD] using hcs)).mono ?_
      rintro e w' ⟨v, rfl, hrow, _, hb⟩
      refine ⟨_, _, rfl, by simpa using hrow, hb, intsX rfl⟩

end Go.SX.Runs
