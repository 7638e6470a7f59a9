/- Parts of the proof. -/
import Derived.Test.YtllbabjgpdmblaaGreatDoorZSyT
import Derived.Test.YtllbabjgpdmblaaGreatDoorProg
import Derived.Lib.LaidTab
import Derived.Lib.ItoaNum
set_option linter.unusedSimpArgs false
set_option linter.unusedVariables false
set_option linter.unusedSectionVars false
namespace Go.SX.Td
open Go Go.SX Go.Proofs
def lo0 : String := "internal/strconv.uint64pow10"
def yw2 : Nat:=0
theorem ow0 : Tryz.prog.globalNamed lo0=some yw2:=by kernel_rfl
instance doorTabs : Tabs where
 ok F:=∃ ty fr,F yw2=some (.cells (Lib.pow10Tab.map fun z=>Value.int .u64 z).toArray ty fr)
 mono:=fun h ⟨ty,fr,e⟩=>⟨ty,fr,h _ _ e⟩
theorem za2 {c:Cx}{own:List Res}{w:World}(hS:Sat c own w):Lib.TabIs Tryz.prog w lo0 .u64 Lib.pow10Tab:=by
 obtain⟨ty,fr,e⟩:=hS.tab;have h:=hS.le _ _ e;simp only[Lib.TabIs,World.var?,ow0,qC,h]
theorem zr2 {w w':World}(h:Lib.TabIs Tryz.prog w lo0 .u64 Lib.pow10Tab)(hb:RowKit.Below w.heap.size w w'):Lib.TabIs Tryz.prog w' lo0 .u64 Lib.pow10Tab:=by
 simp only[Lib.TabIs,World.var?,ow0,qC] at h ⊢;have hlt:yw2<w.heap.size:=by
  cases hg:w.heap[yw2]? with
  | none=>simp[hg] at h
  | some o=>exact(qB.1 hg).1
 rw[hb.block _ hlt];exact h
end Go.SX.Td
