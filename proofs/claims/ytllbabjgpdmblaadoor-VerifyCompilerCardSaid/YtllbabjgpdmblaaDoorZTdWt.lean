/- Parts of the proof. -/
import Derived.Test.YtllbabjgpdmblaaDoorZTdW
import Derived.Test.YtllbabjgpdmblaaDoorZTdV4
set_option linter.unusedSimpArgs false
set_option linter.unusedVariables false
set_option linter.unusedSectionVars false
namespace Go.SX.Td
open Go Go.SX Go.Proofs Go.ChangeShapes Go.WideShapes Go.ChangeAt Go.RowKit
set_option maxRecDepth 1000000
theorem oInts : Opens Tryd.prog 62 1 (fun l:List Int=>[.sl (W eIi64 l)]) (fun l=>l.length≤maxLen∧∀ x∈l,InK .i64 x):=Opens.sliceL Tryd.underlying62 (by kernel_rfl) (by omega) oI
theorem oB : Opens Tryd.prog 4 1 (fun x:Bool=>[.val (.bool x)]) (fun _=>True):=Opens.bool Tryd.underlying4
theorem oNode : Opens Tryd.prog 64 4 eNode (fun N=>InK .i64 N.Attr∧InK .i64 N.Leaf∧(∀ c∈N.Cuts,InK .i64 c)∧∀ k∈N.Kids,InK .i64 k) :=
 ⟨fun _=>rfl,fun hx=>by
  obtain⟨a,ha,r0⟩:=field_open Tryd.underlying64 hx 0 _ rfl oI
  obtain⟨cs,hc,r1⟩:=field_open Tryd.underlying64 hx 1 _ rfl oInts
  obtain⟨ks,hk,r2⟩:=field_open Tryd.underlying64 hx 2 _ rfl oInts
  obtain⟨l,hl,r3⟩:=field_open Tryd.underlying64 hx 3 _ rfl oI
  exact⟨⟨a,cs,ks,l⟩,⟨ha,hl,hc.2,hk.2⟩,Reads.append (a:=eIi64 a) (b:=eLIi64 cs++(eLIi64 ks++eIi64 l)) r0 (Reads.append (a:=eLIi64 cs) r1 (Reads.append (a:=eLIi64 ks) r2 r3))⟩⟩
theorem oDecision : Opens Tryd.prog 45 16 eDecision (fun _=>True) :=
 ⟨fun _=>rfl,fun hx=>by
  obtain⟨a,_,r0⟩:=field_open Tryd.underlying45 hx 0 _ rfl oB
  obtain⟨b,_,r1⟩:=field_open Tryd.underlying45 hx 1 _ rfl oB
  obtain⟨c,_,r2⟩:=field_open Tryd.underlying45 hx 2 _ rfl oB
  obtain⟨d,_,r3⟩:=field_open Tryd.underlying45 hx 3 _ rfl oI
  obtain⟨e,_,r4⟩:=field_open Tryd.underlying45 hx 4 _ rfl oI
  obtain⟨f,_,r5⟩:=field_open Tryd.underlying45 hx 5 _ rfl oRatio
  obtain⟨g,_,r6⟩:=field_open Tryd.underlying45 hx 6 _ rfl oRatio
  obtain⟨h,_,r7⟩:=field_open Tryd.underlying45 hx 7 _ rfl oRatio
  obtain⟨i,_,r8⟩:=field_open Tryd.underlying45 hx 8 _ rfl oRatio
  obtain⟨j,_,r9⟩:=field_open Tryd.underlying45 hx 9 _ rfl oRatio
  obtain⟨k,_,r10⟩:=field_open Tryd.underlying45 hx 10 _ rfl oI
  exact⟨⟨a,b,c,d,e,f,g,h,i,j,k⟩,trivial,Reads.append (a:=eB a) (b:=eB b++(eB c++(eIi64 d++(eIi64 e++(eRatio f++(eRatio g++(eRatio h++(eRatio i++(eRatio j++eIi64 k))))))))) r0 (Reads.append (a:=eB b) (b:=eB c++(eIi64 d++(eIi64 e++(eRatio f++(eRatio g++(eRatio h++(eRatio i++(eRatio j++eIi64 k)))))))) r1
   (Reads.append (a:=eB c) (b:=eIi64 d++(eIi64 e++(eRatio f++(eRatio g++(eRatio h++(eRatio i++(eRatio j++eIi64 k))))))) r2 (Reads.append (a:=eIi64 d) (b:=eIi64 e++(eRatio f++(eRatio g++(eRatio h++(eRatio i++(eRatio j++eIi64 k)))))) r3 (Reads.append (a:=eIi64 e) (b:=eRatio f++(eRatio g++(eRatio h++(eRatio i++(eRatio j++eIi64 k))))) r4
   (Reads.append (a:=eRatio f) (b:=eRatio g++(eRatio h++(eRatio i++(eRatio j++eIi64 k)))) r5 (Reads.append (a:=eRatio g) (b:=eRatio h++(eRatio i++(eRatio j++eIi64 k))) r6 (Reads.append (a:=eRatio h) (b:=eRatio i++(eRatio j++eIi64 k)) r7 (Reads.append (a:=eRatio i) (b:=eRatio j++eIi64 k) r8 (Reads.append (a:=eRatio j) (b:=eIi64 k) r9 r10)))))))))⟩⟩
theorem oTable : Opens Tryd.prog 28 2 eTable (fun T=>T.Nodes.length≤maxLen∧∀ N∈T.Nodes,InK .i64 N.Attr∧InK .i64 N.Leaf∧(∀ c∈N.Cuts,InK .i64 c)∧∀ k∈N.Kids,InK .i64 k) :=
 ⟨fun _=>rfl,fun hx=>by
  obtain⟨ns,hn,r0⟩:=field_open Tryd.underlying28 hx 0 _ rfl (Opens.sliceL Tryd.underlying25 (by kernel_rfl) (by omega) oNode)
  obtain⟨ls,_,r1⟩:=field_open Tryd.underlying28 hx 1 _ rfl (Opens.slice Tryd.underlying26 (by kernel_rfl) (by omega) oDecision)
  exact⟨⟨ns,ls⟩,hn,Reads.append (a:=[.sl (W eNode ns)]) r0 r1⟩⟩
theorem openTable {H:Type}{enc:TypeId×Value→H}{w:World}{ps:List MemPlace}{d:DataW H}{b0:Nat}{v:Value}(hv:Value.okWide Tryd.prog w .any b0 28 v)(h:DataW.Trod enc Tryd.prog w 0 (fun _=>true) true 28 v d ps):∃ T:Table,Rel (cx0 w) (vTable T) v∧TabIn T:=by
 obtain⟨cs,rfl,hs⟩:=okWide_struct Tryd.underlying28 hv
 obtain⟨fuel,h⟩:=h
 obtain⟨T,hT,hr⟩:=oTable.op h
 have hc:Tryd.prog.cellsOf 28=2:=by kernel_rfl
 exact⟨T,rel_agg (ds:=eTable T) (by rw[hs,hc];rfl) hr,by rw[← maxLen_eq];exact hT.1,fun N hN=>⟨inK_i64 (hT.2 N hN).1,inK_i64 (hT.2 N hN).2.1,fun c hc=>inK_i64 ((hT.2 N hN).2.2.1 c hc),fun k hk=>inK_i64 ((hT.2 N hN).2.2.2 k hk)⟩⟩
end Go.SX.Td
