/- Parts of the proof. -/
import Derived.Test.YtllbabjgpdmblaaGreatDoorZSyT
import Derived.Test.YtllbabjgpdmblaaGreatDoorProg
import Derived.Lib.LaidTab
import Derived.Lib.ItoaNum
set_option linter.unusedSimpArgs false
set_option linter.unusedVariables false
set_option linter.unusedSectionVars false
namespace Go.SX.Td
open Go Go.SX Go.Proofs
def LM : String := "internal/strconv.uint64pow10"
def U5 : Nat:=0
theorem VY : Tryz.prog.globalNamed LM=some U5:=by kernel_rfl
instance Vr : Tabs where
 ok F:=∃ ty fr,F U5=some (.cells (Lib.pow10Tab.map fun z=>Value.int .u64 z).toArray ty fr)
 mono:=fun h ⟨ty,fr,e⟩=>⟨ty,fr,h _ _ e⟩
theorem wm2 {c:Cx}{own:List ak}{w:World}(hS:Sat c own w):Lib.TabIs Tryz.prog w LM .u64 Lib.pow10Tab:=by
 obtain⟨ty,fr,e⟩:=hS.tab;have h:=hS.le _ _ e;simp only[Lib.TabIs,World.var?,VY,qC,h]
theorem mh1 {w w':World}(h:Lib.TabIs Tryz.prog w LM .u64 Lib.pow10Tab)(hb:RowKit.Below w.heap.size w w'):Lib.TabIs Tryz.prog w' LM .u64 Lib.pow10Tab:=by
 simp only[Lib.TabIs,World.var?,VY,qC] at h ⊢;have hlt:U5<w.heap.size:=by
  cases hg:w.heap[U5]? with
  |none=>simp[hg] at h
  |some o=>exact(qB.1 hg).1
 rw[hb.block _ hlt];exact h
end Go.SX.Td
