/- Parts of the proof. -/
import Derived.Test.YtllbabjgpdmblaaDoorZSyT
set_option linter.unusedSimpArgs false
set_option linter.unusedVariables false
set_option linter.unusedSectionVars false
namespace Go.SX
open Go
variable [Tabs]
def nrmR2 (own:List Res):SV→SV
 | .tup cs=>.tup (cs.map (nrmR own))
 | s=>nrmR own s
theorem nrmR2_rel {c:Cx}{own:List Res}{w:World}(hS:Sat c own w){s:SV}{u:Value}(h:Rel c s u):Rel c (nrmR2 own s) u:=by
 unfold nrmR2
 split
 ·obtain⟨us,rfl,h2⟩:=Rel.yz0.1 h
  exact Rel.yz0.2 ⟨us,rfl,by rw[h2.1,List.length_map],fun i s u hs hu=>by
   rw[List.getElem?_map,Option.map_eq_some_iff] at hs
   obtain⟨s0,hs0,rfl⟩:=hs
   exact gk0 hS (h2.2 i s0 u hs0 hu)⟩
 ·exact gk0 hS h
theorem SCall.data2 {P:Program}{f:FuncId}{own:List Res}{args:List SV}{K0 K1:SV→List Res→Prop}(h:SCall P f own args K0)(hK:∀ sv own',K0 sv own'→K1 (nrmR2 (frzR own' sv) sv) (frzR own' sv)):SCall P f own args K1:=by
 refine⟨h.1,fun c w us hS hr=>(h.2 c w us hS hr).mono ?_⟩
 rintro e w' ⟨c',own',sv,u,rfl,h2,h3,h4,h5,h6⟩
 obtain⟨c1,k1,k2,k3⟩:=frzR_ok sv h3
 exact⟨c1,_,_,u,rfl,nrmR2_rel k1 (h2.mono k2),k1,h4.trans k2,h5.trans k3,hK _ _ h6⟩
theorem Fn1.walkE2 {P:Program}{f:FuncId}{df:EFn}{args:List SV}{s:SV}(hf:compF P f=some df.er)
  (h:∀ K:SV→List Res→Prop,(∀ sv own',nrmR2 (frzR own' sv) sv=s→K sv own')→wpW P 0 df.code (pad df.ntmps args) [] (EndN df.res K)):Fn1 P f args s :=
 SCall.data2 (K0:=fun sv own'=>nrmR2 (frzR own' sv) sv=s) (SCall.walkE hf h) fun _ _ h=>h
end Go.SX
