/-
  Runs: the example's places.
-/
import Derived.Test.YtlahdopmiplnoaaXR10
namespace Go.SX.Runs
open Go Go.Proofs
def exL : List Place := [⟨0, 0, 0, 0, 1, 0, 0, 0, 0⟩, ⟨0, 0, 0, 0, 2, 0, 0, 0, 0⟩, ⟨0, 0, 0, 0, 3, 0, 0, 0, 0⟩, ⟨0, 0, 0, 0, 5, 0, 0, 0, 0⟩, ⟨0, 0, 0, 0, 6, 0, 0, 0, 0⟩]
variable {P : Program} (hP : P = Try.prog)
include hP
theorem exampleR : Fn1 P 28 [] (.d (.sl (exL.map Place.ds))) := by
  refine .walkD (hP ▸ d28_ok) fun K hK => ?_
  generalize hx : exL.map Place.ds = ex at hK
  cbv
  refine hK _ _ (slE ?_)
  rw [← hx]; rfl
end Go.SX.Runs
