/- Parts of the proof. -/
import Derived.Test.YtllbabjgpdmblaaDoorZSyT
import Derived.Test.YtllbabjgpdmblaaDoorProg
import Derived.Lib.LaidTab
import Derived.Lib.ItoaNum
set_option linter.unusedSimpArgs false
set_option linter.unusedVariables false
set_option linter.unusedSectionVars false
namespace Go.SX.Td
open Go Go.SX Go.Proofs
def powName : String := "internal/strconv.uint64pow10"
def gPow : Nat:=0
theorem bg0 : Tryd.prog.globalNamed powName=some gPow:=by kernel_rfl
instance doorTabs : Tabs where
 ok F:=∃ ty fr,F gPow=some (.cells (Lib.pow10Tab.map fun z=>Value.int .u64 z).toArray ty fr)
 mono:=fun h ⟨ty,fr,e⟩=>⟨ty,fr,h _ _ e⟩
theorem tab_is {c:Cx}{own:List Res}{w:World}(hS:Sat c own w):Lib.TabIs Tryd.prog w powName .u64 Lib.pow10Tab:=by
 obtain⟨ty,fr,e⟩:=hS.tab
 have h:=hS.le _ _ e
 simp only[Lib.TabIs,World.var?,bg0,Option.bind_some,h]
theorem tab_on {w w':World}(h:Lib.TabIs Tryd.prog w powName .u64 Lib.pow10Tab)(hb:RowKit.Below w.heap.size w w'):Lib.TabIs Tryd.prog w' powName .u64 Lib.pow10Tab:=by
 simp only[Lib.TabIs,World.var?,bg0,Option.bind_some] at h ⊢
 have hlt:gPow<w.heap.size:=by
  cases hg:w.heap[gPow]? with
  | none=>simp[hg] at h
  | some o=>exact(Array.getElem?_eq_some_iff.1 hg).1
 rw[hb.block _ hlt];exact h
end Go.SX.Td
