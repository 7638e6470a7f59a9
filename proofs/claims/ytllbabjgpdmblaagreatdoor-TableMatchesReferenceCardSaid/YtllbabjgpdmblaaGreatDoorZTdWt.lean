/- Parts of the proof. -/
import Derived.Test.YtllbabjgpdmblaaGreatDoorZTdW
import Derived.Test.YtllbabjgpdmblaaGreatDoorZTdR1
set_option linter.unusedSimpArgs false
set_option linter.unusedVariables false
set_option linter.unusedSectionVars false
namespace Go.SX.Td
open Go Go.SX Go.Proofs Go.ChangeShapes Go.WideShapes Go.ChangeAt Go.RowKit
set_option maxRecDepth 1000000
theorem wp2 : Opens Tryz.prog 48 1 (fun l:List Int=>[.sl (W qq0 l)]) (fun l=>l.length≤maxLen∧∀ x∈l,InK .i64 x):=Opens.vy1 Tryz.underlying48 (by kernel_rfl) (by omega) oI
theorem oB : Opens Tryz.prog 4 1 (fun x:Bool=>[.val (.bool x)]) (fun _=>True):=Opens.bool Tryz.underlying4
theorem ru2 : Opens Tryz.prog 50 4 qk0 (fun N=>InK .i64 N.Attr∧InK .i64 N.Leaf∧(∀ c∈N.Cuts,InK .i64 c)∧∀ k∈N.Kids,InK .i64 k) :=
 ⟨fun _=>rfl,fun hx=>by
  obtain⟨a,ha,r0⟩:=qn0 Tryz.underlying50 hx 0 _ rfl oI;obtain⟨cs,hc,r1⟩:=qn0 Tryz.underlying50 hx 1 _ rfl wp2;obtain⟨ks,hk,r2⟩:=qn0 Tryz.underlying50 hx 2 _ rfl wp2;obtain⟨l,hl,r3⟩:=qn0 Tryz.underlying50 hx 3 _ rfl oI;exact⟨⟨a,cs,ks,l⟩,⟨ha,hl,hc.2,hk.2⟩,Reads.append (a:=qq0 a) (b:=qt0 cs++(qt0 ks++qq0 l)) r0 (Reads.append (a:=qt0 cs) r1 (Reads.append (a:=qt0 ks) r2 r3))⟩⟩
theorem pj1 : Opens Tryz.prog 44 16 qz0 (fun _=>True) :=
 ⟨fun _=>rfl,fun hx=>by
  obtain⟨a,_,r0⟩:=qn0 Tryz.underlying44 hx 0 _ rfl oB;obtain⟨b,_,r1⟩:=qn0 Tryz.underlying44 hx 1 _ rfl oB;obtain⟨c,_,r2⟩:=qn0 Tryz.underlying44 hx 2 _ rfl oB;obtain⟨d,_,r3⟩:=qn0 Tryz.underlying44 hx 3 _ rfl oI;obtain⟨e,_,r4⟩:=qn0 Tryz.underlying44 hx 4 _ rfl oI;obtain⟨f,_,r5⟩:=qn0 Tryz.underlying44 hx 5 _ rfl be0;obtain⟨g,_,r6⟩:=qn0 Tryz.underlying44 hx 6 _ rfl be0;obtain⟨h,_,r7⟩:=qn0 Tryz.underlying44 hx 7 _ rfl be0;obtain⟨i,_,r8⟩:=qn0 Tryz.underlying44 hx 8 _ rfl be0;obtain⟨j,_,r9⟩:=qn0 Tryz.underlying44 hx 9 _ rfl be0;obtain⟨k,_,r10⟩:=qn0 Tryz.underlying44 hx 10 _ rfl oI;exact⟨⟨a,b,c,d,e,f,g,h,i,j,k⟩,trivial,Reads.append (a:=eB a) (b:=eB b++(eB c++(qq0 d++(qq0 e++(zd0 f++(zd0 g++(zd0 h++(zd0 i++(zd0 j++qq0 k))))))))) r0 (Reads.append (a:=eB b) (b:=eB c++(qq0 d++(qq0 e++(zd0 f++(zd0 g++(zd0 h++(zd0 i++(zd0 j++qq0 k)))))))) r1
   (Reads.append (a:=eB c) (b:=qq0 d++(qq0 e++(zd0 f++(zd0 g++(zd0 h++(zd0 i++(zd0 j++qq0 k))))))) r2 (Reads.append (a:=qq0 d) (b:=qq0 e++(zd0 f++(zd0 g++(zd0 h++(zd0 i++(zd0 j++qq0 k)))))) r3 (Reads.append (a:=qq0 e) (b:=zd0 f++(zd0 g++(zd0 h++(zd0 i++(zd0 j++qq0 k))))) r4
   (Reads.append (a:=zd0 f) (b:=zd0 g++(zd0 h++(zd0 i++(zd0 j++qq0 k)))) r5 (Reads.append (a:=zd0 g) (b:=zd0 h++(zd0 i++(zd0 j++qq0 k))) r6 (Reads.append (a:=zd0 h) (b:=zd0 i++(zd0 j++qq0 k)) r7 (Reads.append (a:=zd0 i) (b:=zd0 j++qq0 k) r8 (Reads.append (a:=zd0 j) (b:=qq0 k) r9 r10)))))))))⟩⟩
theorem wy2 : Opens Tryz.prog 28 2 em1 (fun T=>T.Nodes.length≤maxLen∧∀ N∈T.Nodes,InK .i64 N.Attr∧InK .i64 N.Leaf∧(∀ c∈N.Cuts,InK .i64 c)∧∀ k∈N.Kids,InK .i64 k) :=
 ⟨fun _=>rfl,fun hx=>by
  obtain⟨ns,hn,r0⟩:=qn0 Tryz.underlying28 hx 0 _ rfl (Opens.vy1 Tryz.underlying25 (by kernel_rfl) (by omega) ru2);obtain⟨ls,_,r1⟩:=qn0 Tryz.underlying28 hx 1 _ rfl (Opens.slice Tryz.underlying26 (by kernel_rfl) (by omega) pj1);exact⟨⟨ns,ls⟩,hn,Reads.append (a:=[.sl (W qk0 ns)]) r0 r1⟩⟩
theorem ar1 {H:Type}{enc:TypeId×Value→H}{w:World}{ps:List MemPlace}{d:DataW H}{b0:Nat}{v:Value}(hv:Value.okWide Tryz.prog w .any b0 28 v)(h:DataW.Trod enc Tryz.prog w 0 (fun _=>true) true 28 v d ps):∃ T:Table,Rel (cx0 w) (uc0 T) v∧bt2 T:=by
 obtain⟨cs,rfl,hs⟩:=okWide_struct Tryz.underlying28 hv;obtain⟨fuel,h⟩:=h;obtain⟨T,hT,hr⟩:=wy2.op h;have hc:Tryz.prog.cellsOf 28=2:=by kernel_rfl
 exact⟨T,jv1 (ds:=em1 T) (by rw[hs,hc];rfl) hr,by rw[← maxLen_eq];exact hT.1,fun N hN=>⟨oj0 (hT.2 N hN).1,oj0 (hT.2 N hN).2.1,fun c hc=>oj0 ((hT.2 N hN).2.2.1 c hc),fun k hk=>oj0 ((hT.2 N hN).2.2.2 k hk)⟩⟩
end Go.SX.Td
