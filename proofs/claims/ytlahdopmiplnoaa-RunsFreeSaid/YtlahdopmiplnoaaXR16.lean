/-
  Runs: the fixed examples.
-/
import Derived.Test.YtlahdopmiplnoaaXR15
namespace Go.SX.Runs
open Go Go.Proofs
theorem sortL_perm (c : List Int) : (sortL c).Perm c := List.mergeSort_perm _ _
theorem sortL_eq {c s : List Int} (hp : s.Perm c) (hs : s.Pairwise (· ≤ ·)) : sortL c = s :=
  List.Perm.eq_of_pairwise (le := (· ≤ ·)) (fun _ _ _ _ h1 h2 => Int.le_antisymm h1 h2) (sortL_pw c) hs ((sortL_perm c).trans hp.symm)
theorem sortL_same {c d : List Int} (hp : c.Perm d) : sortL c = sortL d := sortL_eq ((sortL_perm d).trans hp.symm) (sortL_pw d)
def arL : List Place := [⟨0, 0, 0, -1, 1, 0, 0, 0, 0⟩, ⟨0, 0, 0, -1, 7, 0, 0, 0, 0⟩, ⟨0, 0, 1, -1, 0, 0, 0, 0, 0⟩]
def unL : List Place := [⟨0, 0, 0, 0, 2, 0, 0, 0, 0⟩, ⟨0, 0, 0, 0, 1, 0, 0, 0, 0⟩]
theorem k1 : freeI exL [] = [[0, 1, 2], [3, 4]] := by decide +kernel
theorem k2 : freeI exL [false, true] = [[0], [2], [3, 4]] := by decide +kernel
theorem k3 : togetherL exL [2, 0, 1] = true := by
  rw [togetherL, sortL_eq (s := [0, 1, 2]) (by decide) (by decide)]; decide +kernel
theorem k4 : togetherL exL [2, 3] = false := by
  rw [togetherL, sortL_eq (s := [2, 3]) (by decide) (by decide)]; decide +kernel
theorem k5 : togetherL exL [3] = true := by
  rw [togetherL, sortL_eq (s := [3]) (by decide) (by decide)]; decide +kernel
theorem k6 : singlesL exL [] [0, 1] = [2] := by decide +kernel
theorem k7 : singlesL exL [] [1] = [0, 2] := by decide +kernel
theorem k8 : singlesL exL [] [3] = [4] := by decide +kernel
theorem k9 : singlesL exL [] [3, 4] = [] := by decide +kernel
theorem k10 : togetherL arL [1, 0] = true := by
  rw [togetherL, sortL_eq (s := [0, 1]) (by decide) (by decide)]; decide +kernel
theorem k11 : togetherL arL [1, 2] = false := by
  rw [togetherL, sortL_eq (s := [1, 2]) (by decide) (by decide)]; decide +kernel
theorem k12 : freeI arL [] = [] := by decide +kernel
theorem k13 : freeI unL [] = [] := by decide +kernel
variable {P : Program} (hP : P = Try.prog)
include hP
set_option maxHeartbeats 4000000 in
theorem headR : Fn1 P 10 [] (.b true) := by
  refine .walk (hP ▸ d10_ok) fun K hK => ?_
  cbv
  refine .f1z (exampleR hP) rfl rfl ?_
  obtain ⟨ex, hex⟩ : ∃ ex, ex = exL.map Place.ds := ⟨_, rfl⟩
  rw [← hex]
  have hexl : exL.length ≤ 1000000000 := by decide
  cbv
  refine .f1z (rowsR hP hex hexl) rfl rfl ?_
  rw [k1]
  cbv
  refine .f1z (listsR hP (a := [[0, 1, 2], [3, 4]]) (b := [[0, 1, 2], [3, 4]]) rfl rfl (by decide) (by decide)) rfl rfl ?_
  rw [decide_eq_true rfl]
  cbv
  refine .f1z (freeR hP (t := [false, true]) hex rfl hexl) rfl rfl ?_
  rw [k2]
  cbv
  refine .f1z (listsR hP (a := [[0], [2], [3, 4]]) (b := [[0], [2], [3, 4]]) rfl rfl (by decide) (by decide)) rfl rfl ?_
  rw [decide_eq_true rfl]
  cbv
  refine .f1z (togetherR hP (c := [2, 0, 1]) hex rfl hexl (by decide)) rfl rfl ?_
  rw [k3]
  cbv
  refine .f1z (togetherR hP (c := [2, 3]) hex rfl hexl (by decide)) rfl rfl ?_
  rw [k4]
  cbv
  refine brk (fun _ => ?_) (fun h => by simp [x_not] at h)
  cbv
  refine .f1z (togetherR hP (c := [3]) hex rfl hexl (by decide)) rfl rfl ?_
  rw [k5]
  cbv
  refine .f1z (singlesR hP (t := []) (c := [0, 1]) hex rfl rfl hexl (by decide)) rfl rfl ?_
  rw [k6]
  cbv
  refine .f1z (intsR hP (a := [2]) (b := [2]) rfl rfl (by decide)) rfl rfl ?_
  rw [decide_eq_true rfl]
  cbv
  refine .f1z (singlesR hP (t := []) (c := [1]) hex rfl rfl hexl (by decide)) rfl rfl ?_
  rw [k7]
  cbv
  refine .f1z (intsR hP (a := [0, 2]) (b := [0, 2]) rfl rfl (by decide)) rfl rfl ?_
  rw [decide_eq_true rfl]
  cbv
  refine .f1z (singlesR hP (t := []) (c := [3]) hex rfl rfl hexl (by decide)) rfl rfl ?_
  rw [k8]
  cbv
  refine .f1z (intsR hP (a := [4]) (b := [4]) rfl rfl (by decide)) rfl rfl ?_
  rw [decide_eq_true rfl]
  cbv
  refine .f1z (singlesR hP (t := []) (c := [3, 4]) hex rfl rfl hexl (by decide)) rfl rfl ?_
  rw [k9]
  cbv
  refine brk (fun _ => ?_) (fun h => by simp [x_eq, x_len] at h)
  cbv
  refine .f1z (togetherR hP (l := arL) (c := [1, 0]) rfl rfl (by decide) (by decide)) rfl rfl ?_
  rw [k10]
  cbv
  refine .f1z (togetherR hP (l := arL) (c := [1, 2]) rfl rfl (by decide) (by decide)) rfl rfl ?_
  rw [k11]
  cbv
  refine brk (fun _ => ?_) (fun h => by simp [x_not] at h)
  cbv
  refine .f1z (rowsR hP (l := arL) rfl (by decide)) rfl rfl ?_
  rw [k12]
  cbv
  refine brk (fun _ => ?_) (fun h => by simp [x_eq, x_len] at h)
  cbv
  refine .f1z (rowsR hP (l := unL) rfl (by decide)) rfl rfl ?_
  rw [k13]
  cbv
  exact hK _ _ (biE (by simp [x_eq, x_len]))
end Go.SX.Runs
