/- Parts of the proof. -/
import Derived.Test.YtllbabjgpdmblaaDoorZTdT
import Derived.Test.YtllbabjgpdmblaaDoorZTdBuilder
import Derived.Test.YtllbabjgpdmblaaDoorZTdSwalkV
import Derived.Test.YtllbabjgpdmblaaDoorZTdCompact
set_option linter.unusedSimpArgs false
set_option linter.unusedVariables false
set_option linter.unusedSectionVars false
namespace Go.SX.Td
open Go Go.SX Go.Proofs
set_option maxRecDepth 100000
noncomputable def table_Lookup_l26 (Cuts8:(List Int))(Attr7:Int)(f:(A10 Int)):Int→Option ((Int) ⊕ ((Unit) ⊕ (Int)))
 | v12 =>
 bif (io.lt v12 (io.len (W eIi64 Cuts8))) then (
 Option.bind (
 Option.bind (idxG Cuts8 v12) fun x14 =>
 Option.bind (pixG 10 Attr7) fun i15 =>
 some (io.lt (f.get i15) x14)
 ) fun v13 =>
 bif v13 then (
 some (.inr (.inr v12))
 ) else (
 some (.inl (io.ar .add .i64 v12 1))
 )
 ) else (
 some (.inr (.inl ()))
 )
noncomputable def table_Lookup_l22 (f:(A10 Int))(t_:Table):(Int×(List Int)×(List Int)×Int)→Option ((Int×(List Int)×(List Int)×Int) ⊕ (Int×(List Int)×(List Int)×Int))
 | (Attr7,Cuts8,Kids9,Leaf10) =>
 bif (io.lt 0 (io.len (W eIi64 Kids9))) then (
 Option.bind (
 orR (
 whileG (table_Lookup_l26 Cuts8 Attr7 f) 0
 ) fun _ =>
 some (-1)
 ) fun k11 =>
 Option.bind (
 bif (io.lt k11 0) then (
 some (io.len (W eIi64 Cuts8))
 ) else (
 some k11
 )
 ) fun k16 =>
 Option.bind (idxG Kids9 k16) fun x17 =>
 Option.bind (idxG t_.Nodes x17) fun x18 =>
 some (.inl (x18.Attr,x18.Cuts,x18.Kids,x18.Leaf))
 ) else (
 some (.inr (Attr7,Cuts8,Kids9,Leaf10))
 )
noncomputable def table_Lookup_g (t_:Table)(f:(A10 Int)):Option (Decision) :=
 Option.bind (table_Valid_g t_) fun v1 =>
 bif (io.not v1) then (
 some (Decision.mk false false false 0 0 (Ratio.mk 0 0) (Ratio.mk 0 0) (Ratio.mk 0 0) (Ratio.mk 0 0) (Ratio.mk 0 0) 0)
 ) else (
 Option.bind (idxG t_.Nodes 0) fun x2 =>
 Option.bind (
 whileG (table_Lookup_l22 f t_) (x2.Attr,x2.Cuts,x2.Kids,x2.Leaf)
 ) fun (Attr3,Cuts4,Kids5,Leaf6) =>
 Option.bind (idxG t_.Leaves Leaf6) fun x19 =>
 some x19
 )
end Go.SX.Td
namespace Go.SX.Td
open Go Go.SX Go.Proofs
set_option maxRecDepth 100000
def c50r0 : List GOp:=[
 gv 4 (.mv (.const (.int .i64 0)))]
def c50r1 : List GOp:=[
 gv 6 (.mv (.tmp 0)),
 gv 7 (.len false (.tmp 6)),
 gv 8 (.mv (.const (.int .i64 0)))]
def c50r2 : List GOp:=[
 gv 9 (.bin .lss (.tmp 8) (.tmp 7))]
def c50r3 : List GOp:=[
 gv 10 (.mv (.tmp 8)),
 gv 5 (.mv (.tmp 10))]
def c50r4 : List GOp:=[
 gv 11 (.mv (.tmp 1)),
 gv 12 (.mv (.tmp 0)),
 gv 13 (.mv (.tmp 5)),
 gv 14 (.idxA 1 (.tmp 12) (.tmp 13)),
 gv 15 (.load 1 false (.tmp 14)),
 gv 16 (.callv (.tmp 11) [(.tmp 15)])]
def c50r5 : List GOp:=[
 gv 17 (.mv (.tmp 5)),
 gv 4 (.mv (.tmp 17))]
def c50r6 : List GOp:=[
 gv 18 (.bin .add (.tmp 8) (.const (.int .i64 1))),
 gv 8 (.mv (.tmp 18))]
def c50l7 : DE:=.seq (.reg c50r2) (.seq (.cond (.tmp 9) (.skip) (.exit 0)) (.seq (.block 1 (.seq (.reg c50r3) (.join (.reg c50r4) (.cond (.tmp 16) (.seq (.reg c50r5) (.ret)) (.skip))))) (.reg c50r6)))
def c50r8 : List GOp:=[
 gv 4 (.mv (.const (.int .i64 (-1))))]
def c50 : EFn:=⟨19,.seq (.reg c50r0) (.join (.seq (.reg c50r1) (.block 0 (.loop c50l7))) (.seq (.reg c50r8) (.ret))),[.tmp 4]⟩
theorem c50_ok : compF Tryd.prog 50=some c50.er:=by kernel_rfl
def c51r0 : List GOp:=[
 gv 4 (.mv (.const (.bool false)))]
def c51r1 : List GOp:=[
 gv 5 (.mv (.tmp 0)),
 gv 6 (.fadd 0 (.tmp 2)),
 gv 7 (.load 1 false (.tmp 6)),
 gv 8 (.idxP 10 1 (.tmp 1) (.tmp 7)),
 gv 9 (.load 1 false (.tmp 8)),
 gv 10 (.bin .gtr (.tmp 5) (.tmp 9)),
 gv 4 (.mv (.tmp 10))]
def c51 : EFn:=⟨11,.seq (.reg c51r0) (.seq (.reg c51r1) (.ret)),[.tmp 4]⟩
theorem c51_ok : compF Tryd.prog 51=some c51.er:=by kernel_rfl
def c20r0 : List GOp:=[
 gv 2 (.box 28 (.tmp 0)),
 gv 3 (.box 38 (.tmp 1)),
 gv 4 (.alloc 45 (.agg #[(.bool false),(.bool false),(.bool false),oz,oz,oz,oz,oz,oz,oz,oz,oz,oz,oz,oz,oz]))]
def c20r1 : List GOp:=[
 gv 7 (.load 2 true (.tmp 2)),
 gv 8 (.call 17 [(.tmp 7)]),
 gv 9 (.un .not (.tmp 8))]
def c20r2 : List GOp:=[
 gv 10 (.build (.agg #[(.bool false),(.bool false),(.bool false),oz,oz,oz,oz,oz,oz,oz,oz,oz,oz,oz,oz,oz]) []),
 ⟨none,.store 16 (.tmp 4) (.tmp 10),none⟩]
def c20r3 : List GOp:=[
 gv 11 (.fadd 0 (.tmp 2)),
 gv 12 (.load 1 false (.tmp 11)),
 gv 13 (.idxA 4 (.tmp 12) (.const (.int .i64 0))),
 gv 14 (.load 4 true (.tmp 13)),
 gv 5 (.alloc 64 (.agg #[oz,(.slice none 0 0),(.slice none 0 0),oz])),
 ⟨none,.store 4 (.tmp 5) (.tmp 14),none⟩]
def c20r4 : List GOp:=[
 gv 15 (.fadd 2 (.tmp 5)),
 gv 16 (.load 1 false (.tmp 15)),
 gv 17 (.len false (.tmp 16)),
 gv 18 (.bin .gtr (.tmp 17) (.const (.int .i64 0)))]
def c20r5 : List GOp:=[
 gv 19 (.fadd 1 (.tmp 5)),
 gv 20 (.load 1 false (.tmp 19)),
 gv 21 (.mkfn (.func 51) [] [(.tmp 3),(.tmp 5)]),
 gv 22 (.call 50 [(.tmp 20),(.tmp 21)]),
 gv 6 (.mv (.tmp 22))]
def c20r6 : List GOp:=[
 gv 23 (.mv (.tmp 6)),
 gv 24 (.bin .lss (.tmp 23) (.const (.int .i64 0)))]
def c20r7 : List GOp:=[
 gv 25 (.fadd 1 (.tmp 5)),
 gv 26 (.load 1 false (.tmp 25)),
 gv 27 (.len false (.tmp 26)),
 gv 6 (.mv (.tmp 27))]
def c20r8 : List GOp:=[
 gv 28 (.fadd 0 (.tmp 2)),
 gv 29 (.load 1 false (.tmp 28)),
 gv 30 (.fadd 2 (.tmp 5)),
 gv 31 (.load 1 false (.tmp 30)),
 gv 32 (.mv (.tmp 6)),
 gv 33 (.idxA 1 (.tmp 31) (.tmp 32)),
 gv 34 (.load 1 false (.tmp 33)),
 gv 35 (.idxA 4 (.tmp 29) (.tmp 34)),
 gv 36 (.load 4 true (.tmp 35))]
def c20r8z : GOp:=⟨none,.store 4 (.tmp 5) (.tmp 36),none⟩
def c20l9 : DE:=.seq (.seq (.reg c20r4) (.cond (.tmp 18) (.skip) (.exit 0))) (.block 1 (.join (.reg c20r5) (.join (.seq (.reg c20r6) (.cond (.tmp 24) (.reg c20r7) (.skip))) (.hyl true true 7 c20r8 c20r8z))))
def c20r10 : List GOp:=[
 gv 37 (.fadd 1 (.tmp 2)),
 gv 38 (.load 1 false (.tmp 37)),
 gv 39 (.fadd 3 (.tmp 5)),
 gv 40 (.load 1 false (.tmp 39)),
 gv 41 (.idxA 16 (.tmp 38) (.tmp 40)),
 gv 42 (.load 16 true (.tmp 41)),
 ⟨none,.store 16 (.tmp 4) (.tmp 42),none⟩]
def c20 : EFn:=⟨43,.seq (.reg c20r0) (.seq (.seq (.reg c20r1) (.cond (.tmp 9) (.seq (.reg c20r2) (.ret)) (.skip))) (.seq (.reg c20r3) (.join (.block 0 (.loop c20l9)) (.seq (.reg c20r10) (.ret))))),[.cell 4 16 true]⟩
theorem c20_ok : compF Tryd.prog 20=some c20.er:=by kernel_rfl
set_option maxHeartbeats 4000000 in
theorem table_Lookup_R {P:Program}(hP:P=Tryd.prog)(t_:Table)(f:(A10 Int))(r:Decision)(h:table_Lookup_g t_ f=some r):Fn1 P 20 [vTable t_,vA10Ii64 f] (vDecision r):=by
 refine .walkE (hP▸c20_ok) fun K hK=>?_;unfold table_Lookup_g at h;cbv;refine .g h (fun v hv=>table_Valid_R hP _ v hv) aw_ rfl (fun _=>rfl) fun v1 h=>?_;cbv;refine brkG h ?_ ?_<;>intro h
 ·cbv;obtain rfl:=oj h;exact hK _ _ aw_
 ·cbv;refine .g h (fun _=>rfl) fun x2 h=>?_;cbv;refine .g h (fun ((Attr3,Cuts4,Kids5,Leaf6):Int×(List Int)×(List Int)×Int)=>[.top,.top,.ptr 0 0,.top,.ptr 1 0,.ptr 2 0]++rp 37 .top) (fun (Attr3,Cuts4,Kids5,Leaf6)=>[.cells [.d (.sl (W eNode t_.Nodes)),.d (.sl (W eDecision t_.Leaves))] 28,.cells dz 45,.cells [oi Attr3,.d (.sl (W eIi64 Cuts4)),.d (.sl (W eIi64 Kids5)),oi Leaf6] 64]) (fun y hm Kn1 hKn1=>?_) fun t h=>?_
  ·have h:=hm;clear hm;cbv;refine .g h (fun ((Attr7,Cuts8,Kids9,Leaf10):Int×(List Int)×(List Int)×Int)=>[.top,.top,.ptr 0 0,.ptr 1 0,.ptr 2 0,.ptr 3 0]++rp 37 .top) (fun (Attr7,Cuts8,Kids9,Leaf10)=>[.cells [.d (.sl (W eNode t_.Nodes)),.d (.sl (W eDecision t_.Leaves))] 28,.cells (ca f) 38,.cells dz 45,.cells [oi Attr7,.d (.sl (W eIi64 Cuts8)),.d (.sl (W eIi64 Kids9)),oi Leaf10] 64]) (.nz (.mtE [0,1,2,3] ?_)) fun s x h hr2 Kn2 hKn2=>?_
   ·(cbv;repeat (refine⟨an_,?_⟩;cbv))
   unfold table_Lookup_l22 at h;obtain⟨Attr7,Cuts8,Kids9,Leaf10⟩:=s;cbv;refine brkG h ?_ ?_<;>intro h
   ·cbv;refine .g h (fun (k11:Int)=>[.top,.top,.ptr 0 0,.ptr 1 0,.ptr 2 0,.ptr 3 0,oi k11]++rp 36 .top) (fun k11=>[.cells [.d (.sl (W eNode t_.Nodes)),.d (.sl (W eDecision t_.Leaves))] 28,.cells (ca f) 38,.cells dz 45,.cells [oi Attr7,.d (.sl (W eIi64 Cuts8)),.d (.sl (W eIi64 Kids9)),oi Leaf10] 64]) (fun y hm Kn3 hKn3=>?_) fun t h=>?_
    ·have h:=hm;clear hm;cbv;refine .inl (hP▸c50_ok) ?_;cbv;refine .ga h (fun (_:Unit)=>rp 19 .top) (fun _=>[.cells [.d (.sl (W eNode t_.Nodes)),.d (.sl (W eDecision t_.Leaves))] 28,.cells (ca f) 38,.cells dz 45,.cells [oi Attr7,.d (.sl (W eIi64 Cuts8)),.d (.sl (W eIi64 Kids9)),oi Leaf10] 64]) (fun y hm hr4 Kn4 hKn4=>?_) fun t h=>?_
     ·have h:=hm;clear hm;cbv;refine .g h (fun (v12:Int)=>[.d (.sl (W eIi64 Cuts8)),.clo (.func 51) [] [.ptr 1 0,.ptr 3 0]]++rp 5 .top++[oi (io.len (W eIi64 Cuts8)),oi v12]++rp 10 .top) (fun v12=>[.cells [.d (.sl (W eNode t_.Nodes)),.d (.sl (W eDecision t_.Leaves))] 28,.cells (ca f) 38,.cells dz 45,.cells [oi Attr7,.d (.sl (W eIi64 Cuts8)),.d (.sl (W eIi64 Kids9)),oi Leaf10] 64]) (.nz (.mtE [0,1,2,3] ?_)) fun s x h hr5 Kn5 hKn5=>?_
      ·(cbv;repeat (refine⟨an_,?_⟩;cbv))
      unfold table_Lookup_l26 at h;obtain⟨v12,rfl⟩:=ez s;cbv;refine brkG h ?_ ?_<;>intro h
      ·cbv;refine .g h (fun (v13:Bool)=>[.d (.sl (W eIi64 Cuts8)),.clo (.func 51) [] [.ptr 1 0,.ptr 3 0]]++rp 3 .top++[oi v12,.top,oi (io.len (W eIi64 Cuts8)),oi v12]++rp 7 .top++[ob v13,.top,.top]) (fun v13=>[.cells [.d (.sl (W eNode t_.Nodes)),.d (.sl (W eDecision t_.Leaves))] 28,.cells (ca f) 38,.cells dz 45,.cells [oi Attr7,.d (.sl (W eIi64 Cuts8)),.d (.sl (W eIi64 Kids9)),oi Leaf10] 64]) (fun y hm Kn6 hKn6=>?_) fun t h=>?_
       ·have h:=hm;clear hm;cbv;refine .g h (fun _=>rfl) fun x14 h=>?_;cbv;refine .inl (hP▸c51_ok) ?_;cbv
        refine .c10 h ?_ ?_ ?_ ?_ ?_ ?_ ?_ ?_ ?_ ?_<;>(
         intro hni15 h;cbv;obtain rfl:=oj h;refine hKn6 _ _ _ rfl (.nz (.mtE [0,1,2,3] ?_));(cbv;repeat (refine⟨an_,?_⟩;cbv))
         )
       obtain⟨v13,rfl⟩:=ez t;cbv;refine brkG h ?_ ?_<;>intro h
       ·cbv;obtain rfl:=oj h;obtain rfl:=hr5 _ rfl;obtain rfl:=hr4 _ rfl;refine hKn3 _ _ _ rfl (.nz (.mtE [0,1,2,3] ?_));(cbv;repeat (refine⟨an_,?_⟩;cbv))
       ·cbv;obtain rfl:=oj h;refine hKn5 _ _ _ rfl (.nz (.mtE [0,1,2,3] ?_));(cbv;repeat (refine⟨an_,?_⟩;cbv))
      ·cbv;obtain rfl:=oj h;obtain rfl:=hr5 _ rfl;refine hKn4 _ _ _ rfl (.nz (.mtE [0,1,2,3] ?_));(cbv;repeat (refine⟨an_,?_⟩;cbv))
     cbv;obtain rfl:=oj h;refine hKn3 _ _ _ rfl (.nz (.mtE [0,1,2,3] ?_));(cbv;repeat (refine⟨an_,?_⟩;cbv))
    obtain⟨k11,rfl⟩:=ez t;cbv;refine .g h (fun (k16:Int)=>[.top,.top,.ptr 0 0,.ptr 1 0,.ptr 2 0,.ptr 3 0,oi k16]++rp 36 .top) (fun k16=>[.cells [.d (.sl (W eNode t_.Nodes)),.d (.sl (W eDecision t_.Leaves))] 28,.cells (ca f) 38,.cells dz 45,.cells [oi Attr7,.d (.sl (W eIi64 Cuts8)),.d (.sl (W eIi64 Kids9)),oi Leaf10] 64]) (fun y hm Kn3 hKn3=>?_) fun t h=>?_
    ·have h:=hm;clear hm;cbv;refine brkG h ?_ ?_<;>intro h
     ·cbv;obtain rfl:=oj h;refine hKn3 _ _ _ rfl (.nz (.mtE [0,1,2,3] ?_));(cbv;repeat (refine⟨an_,?_⟩;cbv))
     ·cbv;obtain rfl:=oj h;refine hKn3 _ _ _ rfl (.nz (.mtE [0,1,2,3] ?_));(cbv;repeat (refine⟨an_,?_⟩;cbv))
    obtain⟨k16,rfl⟩:=ez t;cbv;refine .g h (fun _=>rfl) fun x17 h=>?_;cbv;refine .g h (fun _=>rfl) fun x18 h=>?_;cbv;obtain rfl:=oj h;refine hKn2 _ _ _ rfl (.nz (.mtE [0,1,2,3] ?_));(cbv;repeat (refine⟨an_,?_⟩;cbv))
   ·cbv;obtain rfl:=oj h;obtain rfl:=hr2 _ rfl;refine hKn1 _ _ _ rfl (.nz (.mtE [0,2,3] ?_));(cbv;repeat (refine⟨an_,?_⟩;cbv))
  obtain⟨Attr3,Cuts4,Kids5,Leaf6⟩:=t;cbv;refine .g h (fun _=>rfl) fun x19 h=>?_;cbv;obtain rfl:=oj h;exact hK _ _ aw_
end Go.SX.Td
namespace Go.SX.Td
open Go Go.SX Go.Proofs
set_option maxRecDepth 100000
def c23r0 : List GOp:=[
 gv 1 (.box 24 (.tmp 0)),
 gv 2 (.mv (.const (.bool false)))]
def c23r1 : List GOp:=[
 gv 3 (.mv (.const (.int .i64 0)))]
def c23r2 : List GOp:=[
 gv 4 (.mv (.const (.int .i64 0)))]
def c23r3 : List GOp:=[
 gv 5 (.mv (.tmp 4)),
 gv 6 (.fadd 0 (.tmp 1)),
 gv 7 (.load 1 false (.tmp 6)),
 gv 8 (.len false (.tmp 7)),
 gv 9 (.bin .lss (.tmp 5) (.tmp 8))]
def c23r4 : List GOp:=[
 gv 12 (.mv (.tmp 3)),
 gv 13 (.fadd 0 (.tmp 1)),
 gv 14 (.load 1 false (.tmp 13)),
 gv 15 (.mv (.tmp 4)),
 gv 16 (.idxA 8 (.tmp 14) (.tmp 15)),
 gv 17 (.fadd 2 (.tmp 16)),
 gv 18 (.load 1 false (.tmp 17)),
 gv 19 (.len false (.tmp 18)),
 gv 20 (.bin .add (.tmp 12) (.tmp 19)),
 gv 3 (.mv (.tmp 20))]
def c23r5 : List GOp:=[
 gv 21 (.fadd 0 (.tmp 1)),
 gv 22 (.load 1 false (.tmp 21)),
 gv 23 (.mv (.tmp 4)),
 gv 24 (.idxA 8 (.tmp 22) (.tmp 23)),
 gv 25 (.fadd 1 (.tmp 24)),
 gv 26 (.load 1 false (.tmp 25)),
 gv 27 (.len true (.tmp 26)),
 gv 28 (.bin .gtr (.tmp 27) (.const (.int .i64 60)))]
def c23r6 : List GOp:=[
 gv 2 (.mv (.const (.bool false)))]
def c23r7 : List GOp:=[
 gv 10 (.mv (.tmp 4)),
 gv 11 (.bin .add (.tmp 10) (.const (.int .i64 1))),
 gv 4 (.mv (.tmp 11))]
def c23l8 : DE:=.seq (.seq (.reg c23r3) (.cond (.tmp 9) (.skip) (.exit 0))) (.seq (.block 1 (.seq (.reg c23r4) (.seq (.reg c23r5) (.cond (.tmp 28) (.seq (.reg c23r6) (.ret)) (.skip))))) (.reg c23r7))
def c23r9 : List GOp:=[
 gv 29 (.fadd 0 (.tmp 1)),
 gv 30 (.load 1 false (.tmp 29)),
 gv 31 (.len false (.tmp 30)),
 gv 32 (.bin .leq (.tmp 31) (.const (.int .i64 8))),
 gv 33 (.mv (.tmp 32)),
 gw 34 33 true (.mv (.tmp 3)),
 gw 35 33 true (.bin .leq (.tmp 34) (.const (.int .i64 10))),
 gv 36 (.pick (.tmp 33) (.tmp 35) (.const (.bool false))),
 gv 2 (.mv (.tmp 36))]
def c23 : EFn:=⟨37,.seq (.reg c23r0) (.seq (.reg c23r1) (.join (.seq (.reg c23r2) (.block 0 (.loop c23l8))) (.seq (.reg c23r9) (.ret)))),[.tmp 2]⟩
theorem c23_ok : compF Tryd.prog 23=some c23.er:=by kernel_rfl
set_option maxHeartbeats 4000000 in
theorem ref14_Few_R {P:Program}(hP:P=Tryd.prog)(p:Policy)(r:Bool)(h:ref14_Few_g p=some r):Fn1 P 23 [vPolicy p] (vB r):=by
 refine .walkE (hP▸c23_ok) fun K hK=>?_;unfold ref14_Few_g at h;cbv;refine .ga h (fun (zones1:Int)=>[.top,.ptr 0 0,.top,oi zones1]++rp 33 .top) (fun zones1=>[.cells [.d (.sl (W eRule p.Rules))] 24]) (fun y hm hr1 Kn1 hKn1=>?_) fun t h=>?_
 ·have h:=hm;clear hm;cbv;refine .g h (fun ((zones2,i3):Int×Int)=>[.top,.ptr 0 0,.top,oi zones2,oi i3]++rp 32 .top) (fun (zones2,i3)=>[.cells [.d (.sl (W eRule p.Rules))] 24]) (.nz (.mtE [0] ?_)) fun s x h hr2 Kn2 hKn2=>?_
  ·(cbv;repeat (refine⟨an_,?_⟩;cbv))
  unfold ref14_Few_l2 at h;obtain⟨zones2,i3⟩:=s;cbv;refine brkG h ?_ ?_<;>intro h
  ·cbv;refine .g h (fun _=>rfl) fun x4 h=>?_;cbv;refine .g h (fun _=>rfl) fun x5 h=>?_;cbv;refine brkG h ?_ ?_<;>intro h
   ·cbv;obtain rfl:=oj h;obtain rfl:=hr2 _ rfl;obtain rfl:=hr1 _ rfl;exact hK _ _ aw_
   ·cbv;obtain rfl:=oj h;refine hKn2 _ _ _ rfl (.nz (.mtE [0] ?_));(cbv;repeat (refine⟨an_,?_⟩;cbv))
  ·cbv;obtain rfl:=oj h;obtain rfl:=hr2 _ rfl;refine hKn1 _ _ _ rfl (.nz (.mtE [0] ?_));(cbv;repeat (refine⟨an_,?_⟩;cbv))
 obtain⟨zones1,rfl⟩:=ez t;cbv;refine brkG h ?_ ?_<;>intro h
 ·cbv;obtain rfl:=oj h;exact hK _ _ aw_
 ·cbv;obtain rfl:=oj h;exact hK _ _ aw_
end Go.SX.Td
