/- Parts of the proof. -/
import Derived.Test.YtllbabjgpdmblaaZSyP
import Derived.Test.YtllbabjgpdmblaaZCl11
import Derived.Test.YtllbabjgpdmblaaZCl14
import Derived.Test.YtllbabjgpdmblaaZCl31
import Derived.Test.YtllbabjgpdmblaaZCl24
set_option linter.unusedSimpArgs false
set_option linter.unusedVariables false
namespace Go.SX.Cl
open Go Go.SX
def limZ : A10 Range := ⟨⟨0, 1000000000⟩, ⟨0, 150⟩, ⟨0, 1⟩, ⟨0, 19⟩, ⟨0, 7⟩, ⟨0, 319⟩, ⟨0, 3⟩, ⟨0, 3⟩, ⟨1, 12⟩, ⟨0, 100⟩⟩
theorem Limits_eq : resolve_Limits_g = some limZ := rfl
def inZ (z : A10 Range) (f : A10 Int) : Bool := (List.range 10).all fun i => decide ((z.get i).Lo ≤ f.get i) && decide (f.get i ≤ (z.get i).Hi)
def holds (r : Rule) (f : A10 Int) : Bool := r.Zones.any fun z => inZ z f
theorem inZ_iff {z : A10 Range} {f : A10 Int} : inZ z f = true ↔ ∀ i, i < 10 → (z.get i).Lo ≤ f.get i ∧ f.get i ≤ (z.get i).Hi := by
 unfold inZ
 simp only [List.all_eq_true, List.mem_range, Bool.and_eq_true, decide_eq_true_eq]
theorem not_any_eq {n : Nat} {p : Nat → Bool} : (!(List.range n).any p) = (List.range n).all fun i => !p i := by
 rw [List.not_any_eq_all_not]
theorem Holds_inner (z : A10 Range) (f : A10 Int) : whileG (decide_Holds_l26 f z) 0 = some (if inZ z f then .inl () else .inr false) := by
 rw [loop_all (step := decide_Holds_l26 f z) 10 (fun i => !(decide ((z.get i).Lo ≤ f.get i) && decide (f.get i ≤ (z.get i).Hi))) (.inr false) (.inl ()) (fun k hk => ?_) (by simp [decide_Holds_l26, io_lt])]
 · congr 1
   have : inZ z f = !((List.range 10).any fun i => !(decide ((z.get i).Lo ≤ f.get i) && decide (f.get i ≤ (z.get i).Hi))) := by
     rw [not_any_eq]; simp [inZ]
   rw [this]
   cases ((List.range 10).any fun i => !(decide ((z.get i).Lo ≤ f.get i) && decide (f.get i ≤ (z.get i).Hi))) <;> rfl
 · have h10 : (k : Int) < 10 := by omega
   simp only [decide_Holds_l26, io_lt, h10, decide_true, cond_true, pixG_some hk, Option.bind_some, io_add, wr_up (k := k) (by omega)]
   by_cases h1 : f.get k < (z.get k).Lo
   · have h1' : ¬ (z.get k).Lo ≤ f.get k := by omega
     simp [h1, h1']
   · have h1' : (z.get k).Lo ≤ f.get k := by omega
     by_cases h2 : (z.get k).Hi < f.get k
     · have h2' : ¬ f.get k ≤ (z.get k).Hi := by omega
       simp [h1, h1', h2, h2']
     · have h2' : f.get k ≤ (z.get k).Hi := by omega
       simp [h1, h1', h2, h2']
theorem Holds_eq (r : Rule) (f : A10 Int) (hz : r.Zones.length ≤ 1000000) : decide_Holds_g r f = some (holds r f) := by
 unfold decide_Holds_g
 have key := loop_find (step := decide_Holds_l22 r f) r.Zones (fun z => inZ z f) (fun _ _ => .inr true) (.inl ()) (fun k x hx => by
   have hk : k < r.Zones.length := (List.getElem?_eq_some_iff.1 hx).1
   have hlt : (k : Int) < r.Zones.length := by omega
   have hge : (0 : Int) ≤ k := by omega
   simp only [decide_Holds_l22, io_lt, io_len, hlt, decide_true, cond_true, idxG_some hx, Option.bind_some, Holds_inner, io_add, wr_up (k := k) (by omega), io_le, hge]
   cases inZ x f <;> simp [orR]) (by simp [decide_Holds_l22, io_lt, io_len])
 rcases key with ⟨k, x, h1, h2, h3, h4⟩ | ⟨h1, h2⟩
 · have : holds r f = true := List.any_eq_true.2 ⟨x, List.mem_of_getElem? h1, h2⟩
   simp [h4, orR, this]
 · have : holds r f = false := by
     unfold holds; rw [List.any_eq_false]; intro x hx; simp [h1 x hx]
   simp [h2, orR, this, io_le]
end Go.SX.Cl
