/- Parts of the proof. -/
import Derived.Test.YtllbabjgpdmblaaGreatDoorZTdW
import Derived.Test.YtllbabjgpdmblaaGreatDoorZTdV1
set_option linter.unusedSimpArgs false
set_option linter.unusedVariables false
set_option linter.unusedSectionVars false
namespace Go.SX.Td
open Go Go.SX Go.Proofs Go.ChangeShapes Go.WideShapes Go.ChangeAt Go.RowKit
set_option maxRecDepth 1000000
theorem ue2 : Opens Tryz.prog 48 1 (fun l:List Int=>[.sl (W aH l)]) (fun l=>l.length<=maxLen/\∀ x∈l,Du .i64 x):=Opens.X5 Tryz.underlying48 (by kernel_rfl) (by omega) oI
theorem oB : Opens Tryz.prog 4 1 (fun x:Bool=>[.val (.bool x)]) (fun _=>True):=Opens.bool Tryz.underlying4
theorem ou2 : Opens Tryz.prog 50 4 bC (fun N=>Du .i64 N.Attr/\Du .i64 N.Leaf/\(∀ c∈N.aI,Du .i64 c)/\∀ k∈N.Kids,Du .i64 k) :=
 ⟨fun _=>rfl,fun hx=>by
  obtain⟨a,ha,r0⟩:=pV Tryz.underlying50 hx 0 _ rfl oI;obtain⟨cs,hc,r1⟩:=pV Tryz.underlying50 hx 1 _ rfl ue2;obtain⟨ks,hk,r2⟩:=pV Tryz.underlying50 hx 2 _ rfl ue2;obtain⟨l,hl,r3⟩:=pV Tryz.underlying50 hx 3 _ rfl oI;exact⟨⟨a,cs,ks,l⟩,⟨ha,hl,hc.2,hk.2⟩,Reads.append (a:=aH a) (b:=xZ cs++(xZ ks++aH l)) r0 (Reads.append (a:=xZ cs) r1 (Reads.append (a:=xZ ks) r2 r3))⟩⟩
theorem bd1 : Opens Tryz.prog 44 16 bJ (fun _=>True) :=
 ⟨fun _=>rfl,fun hx=>by
  obtain⟨a,_,r0⟩:=pV Tryz.underlying44 hx 0 _ rfl oB;obtain⟨b,_,r1⟩:=pV Tryz.underlying44 hx 1 _ rfl oB;obtain⟨c,_,r2⟩:=pV Tryz.underlying44 hx 2 _ rfl oB;obtain⟨d,_,r3⟩:=pV Tryz.underlying44 hx 3 _ rfl oI;obtain⟨e,_,r4⟩:=pV Tryz.underlying44 hx 4 _ rfl oI;obtain⟨f,_,r5⟩:=pV Tryz.underlying44 hx 5 _ rfl Lu;obtain⟨g,_,r6⟩:=pV Tryz.underlying44 hx 6 _ rfl Lu;obtain⟨h,_,r7⟩:=pV Tryz.underlying44 hx 7 _ rfl Lu;obtain⟨i,_,r8⟩:=pV Tryz.underlying44 hx 8 _ rfl Lu;obtain⟨j,_,r9⟩:=pV Tryz.underlying44 hx 9 _ rfl Lu;obtain⟨k,_,r10⟩:=pV Tryz.underlying44 hx 10 _ rfl oI;exact⟨⟨a,b,c,d,e,f,g,h,i,j,k⟩,trivial,Reads.append (a:=eB a) (b:=eB b++(eB c++(aH d++(aH e++(jS f++(jS g++(jS h++(jS i++(jS j++aH k))))))))) r0 (Reads.append (a:=eB b) (b:=eB c++(aH d++(aH e++(jS f++(jS g++(jS h++(jS i++(jS j++aH k)))))))) r1
   (Reads.append (a:=eB c) (b:=aH d++(aH e++(jS f++(jS g++(jS h++(jS i++(jS j++aH k))))))) r2 (Reads.append (a:=aH d) (b:=aH e++(jS f++(jS g++(jS h++(jS i++(jS j++aH k)))))) r3 (Reads.append (a:=aH e) (b:=jS f++(jS g++(jS h++(jS i++(jS j++aH k))))) r4
   (Reads.append (a:=jS f) (b:=jS g++(jS h++(jS i++(jS j++aH k)))) r5 (Reads.append (a:=jS g) (b:=jS h++(jS i++(jS j++aH k))) r6 (Reads.append (a:=jS h) (b:=jS i++(jS j++aH k)) r7 (Reads.append (a:=jS i) (b:=jS j++aH k) r8 (Reads.append (a:=jS j) (b:=aH k) r9 r10)))))))))⟩⟩
theorem ur2 : Opens Tryz.prog 28 2 yl2 (fun T=>T.Nodes.length<=maxLen/\∀ N∈T.Nodes,Du .i64 N.Attr/\Du .i64 N.Leaf/\(∀ c∈N.aI,Du .i64 c)/\∀ k∈N.Kids,Du .i64 k) :=
 ⟨fun _=>rfl,fun hx=>by
  obtain⟨ns,hn,r0⟩:=pV Tryz.underlying28 hx 0 _ rfl (Opens.X5 Tryz.underlying25 (by kernel_rfl) (by omega) ou2);obtain⟨ls,_,r1⟩:=pV Tryz.underlying28 hx 1 _ rfl (Opens.slice Tryz.underlying26 (by kernel_rfl) (by omega) bd1);exact⟨⟨ns,ls⟩,hn,Reads.append (a:=[.sl (W bC ns)]) r0 r1⟩⟩
theorem bv1 {H:Type}{enc:TypeId×Value->H}{w:World}{ps:List MemPlace}{d:DataW H}{b0:Nat}{v:Value}(hv:Value.okWide Tryz.prog w .any b0 28 v)(h:DataW.Trod enc Tryz.prog w 0 (fun _=>true) true 28 v d ps):∃ T:Table,Rel (Qr w) (BR T) v/\Zc T:=by
 obtain⟨cs,rfl,hs⟩:=okWide_struct Tryz.underlying28 hv;obtain⟨fuel,h⟩:=h;obtain⟨T,hT,hr⟩:=ur2.op h;have hc:Tryz.prog.cellsOf 28=2:=by kernel_rfl
 exact⟨T,ni1 (ds:=yl2 T) (by rw[hs,hc];rfl) hr,by rw[<- maxLen_eq];exact hT.1,fun N hN=>⟨V3 (hT.2 N hN).1,V3 (hT.2 N hN).2.1,fun c hc=>V3 ((hT.2 N hN).2.2.1 c hc),fun k hk=>V3 ((hT.2 N hN).2.2.2 k hk)⟩⟩
end Go.SX.Td
