/- Parts of the proof. -/
import Derived.Test.YtllbabjgpdmblaaDoorZTdT
import Derived.Test.YtllbabjgpdmblaaDoorZTdBuilder
import Derived.Test.YtllbabjgpdmblaaDoorZTd17
import Derived.Test.YtllbabjgpdmblaaDoorZTdSbuildd
import Derived.Test.YtllbabjgpdmblaaDoorZTdKey
import Derived.Test.YtllbabjgpdmblaaDoorZTdCompact
set_option linter.unusedSimpArgs false
set_option linter.unusedVariables false
set_option linter.unusedSectionVars false
namespace Go.SX.Td
open Go Go.SX Go.Proofs
set_option maxRecDepth 100000
noncomputable def table_Lookup_l26 (Cuts8:(List Int))(Attr7:Int)(f:(A10 Int)):Int→Option ((Int) ⊕ ((Unit) ⊕ (Int)))
 | v12 =>
 bif (io.lt v12 (io.len (W eIi64 Cuts8))) then (
 Option.bind (
 Option.bind (idxG Cuts8 v12) fun x14 =>
 Option.bind (pixG 10 Attr7) fun i15 =>
 some (io.lt (f.get i15) x14)
 ) fun v13 =>
 bif v13 then (
 some (.inr (.inr v12))
 ) else (
 some (.inl (io.ar .add .i64 v12 1))
 )
 ) else (
 some (.inr (.inl ()))
 )
noncomputable def table_Lookup_l22 (f:(A10 Int))(t_:Table):(Int×(List Int)×(List Int)×Int)→Option ((Int×(List Int)×(List Int)×Int) ⊕ (Int×(List Int)×(List Int)×Int))
 | (Attr7,Cuts8,Kids9,Leaf10) =>
 bif (io.lt 0 (io.len (W eIi64 Kids9))) then (
 Option.bind (
 orR (
 whileG (table_Lookup_l26 Cuts8 Attr7 f) 0
 ) fun _ =>
 some (-1)
 ) fun k11 =>
 Option.bind (
 bif (io.lt k11 0) then (
 some (io.len (W eIi64 Cuts8))
 ) else (
 some k11
 )
 ) fun k16 =>
 Option.bind (idxG Kids9 k16) fun x17 =>
 Option.bind (idxG t_.Nodes x17) fun x18 =>
 some (.inl (x18.Attr,x18.Cuts,x18.Kids,x18.Leaf))
 ) else (
 some (.inr (Attr7,Cuts8,Kids9,Leaf10))
 )
noncomputable def table_Lookup_g (t_:Table)(f:(A10 Int)):Option (Decision) :=
 Option.bind (table_Valid_g t_) fun v1 =>
 bif (io.not v1) then (
 some (Decision.mk false false false 0 0 (Ratio.mk 0 0) (Ratio.mk 0 0) (Ratio.mk 0 0) (Ratio.mk 0 0) (Ratio.mk 0 0) 0)
 ) else (
 Option.bind (idxG t_.Nodes 0) fun x2 =>
 Option.bind (
 whileG (table_Lookup_l22 f t_) (x2.Attr,x2.Cuts,x2.Kids,x2.Leaf)
 ) fun (Attr3,Cuts4,Kids5,Leaf6) =>
 Option.bind (idxG t_.Leaves Leaf6) fun x19 =>
 some x19
 )
end Go.SX.Td
namespace Go.SX.Td
open Go Go.SX Go.Proofs
set_option maxRecDepth 100000
def c50r0 : List GOp:=[
 gv 4 (.mv (.const (.int .i64 0)))]
def c50r1 : List GOp:=[
 gv 6 (.mv (.tmp 0)),
 gv 7 (.len false (.tmp 6)),
 gv 8 (.mv (.const (.int .i64 0)))]
def c50r2 : List GOp:=[
 gv 9 (.bin .lss (.tmp 8) (.tmp 7))]
def c50r3 : List GOp:=[
 gv 10 (.mv (.tmp 8)),
 gv 5 (.mv (.tmp 10))]
def c50r4 : List GOp:=[
 gv 11 (.mv (.tmp 1)),
 gv 12 (.mv (.tmp 0)),
 gv 13 (.mv (.tmp 5)),
 gv 14 (.idxA 1 (.tmp 12) (.tmp 13)),
 gv 15 (.load 1 false (.tmp 14)),
 gv 16 (.callv (.tmp 11) [(.tmp 15)])]
def c50r5 : List GOp:=[
 gv 17 (.mv (.tmp 5)),
 gv 4 (.mv (.tmp 17))]
def c50r6 : List GOp:=[
 gv 18 (.bin .add (.tmp 8) (.const (.int .i64 1))),
 gv 8 (.mv (.tmp 18))]
def c50l7 : DE:=.seq (.reg c50r2) (.seq (.cond (.tmp 9) (.skip) (.exit 0)) (.seq (.block 1 (.seq (.reg c50r3) (.join (.reg c50r4) (.cond (.tmp 16) (.seq (.reg c50r5) (.ret)) (.skip))))) (.reg c50r6)))
def c50r8 : List GOp:=[
 gv 4 (.mv (.const (.int .i64 (-1))))]
def c50 : EFn:=⟨19,.seq (.reg c50r0) (.join (.seq (.reg c50r1) (.block 0 (.loop c50l7))) (.seq (.reg c50r8) (.ret))),[.tmp 4]⟩
theorem c50_ok : compF Tryd.prog 50=some c50.er:=by kernel_rfl
def c51r0 : List GOp:=[
 gv 4 (.mv (.const (.bool false)))]
def c51r1 : List GOp:=[
 gv 5 (.mv (.tmp 0)),
 gv 6 (.fadd 0 (.tmp 2)),
 gv 7 (.load 1 false (.tmp 6)),
 gv 8 (.idxP 10 1 (.tmp 1) (.tmp 7)),
 gv 9 (.load 1 false (.tmp 8)),
 gv 10 (.bin .gtr (.tmp 5) (.tmp 9)),
 gv 4 (.mv (.tmp 10))]
def c51 : EFn:=⟨11,.seq (.reg c51r0) (.seq (.reg c51r1) (.ret)),[.tmp 4]⟩
theorem c51_ok : compF Tryd.prog 51=some c51.er:=by kernel_rfl
def c20r0 : List GOp:=[
 gv 2 (.box 28 (.tmp 0)),
 gv 3 (.box 38 (.tmp 1)),
 gv 4 (.alloc 45 (.agg #[(.bool false),(.bool false),(.bool false),oz,oz,oz,oz,oz,oz,oz,oz,oz,oz,oz,oz,oz]))]
def c20r1 : List GOp:=[
 gv 7 (.load 2 true (.tmp 2)),
 gv 8 (.call 17 [(.tmp 7)]),
 gv 9 (.un .not (.tmp 8))]
def c20r2 : List GOp:=[
 gv 10 (.build (.agg #[(.bool false),(.bool false),(.bool false),oz,oz,oz,oz,oz,oz,oz,oz,oz,oz,oz,oz,oz]) []),
 ⟨none,.store 16 (.tmp 4) (.tmp 10),none⟩]
def c20r3 : List GOp:=[
 gv 11 (.fadd 0 (.tmp 2)),
 gv 12 (.load 1 false (.tmp 11)),
 gv 13 (.idxA 4 (.tmp 12) (.const (.int .i64 0))),
 gv 14 (.load 4 true (.tmp 13)),
 gv 5 (.alloc 64 (.agg #[oz,(.slice none 0 0),(.slice none 0 0),oz])),
 ⟨none,.store 4 (.tmp 5) (.tmp 14),none⟩]
def c20r4 : List GOp:=[
 gv 15 (.fadd 2 (.tmp 5)),
 gv 16 (.load 1 false (.tmp 15)),
 gv 17 (.len false (.tmp 16)),
 gv 18 (.bin .gtr (.tmp 17) (.const (.int .i64 0)))]
def c20r5 : List GOp:=[
 gv 19 (.fadd 1 (.tmp 5)),
 gv 20 (.load 1 false (.tmp 19)),
 gv 21 (.mkfn (.func 51) [] [(.tmp 3),(.tmp 5)]),
 gv 22 (.call 50 [(.tmp 20),(.tmp 21)]),
 gv 6 (.mv (.tmp 22))]
def c20r6 : List GOp:=[
 gv 23 (.mv (.tmp 6)),
 gv 24 (.bin .lss (.tmp 23) (.const (.int .i64 0)))]
def c20r7 : List GOp:=[
 gv 25 (.fadd 1 (.tmp 5)),
 gv 26 (.load 1 false (.tmp 25)),
 gv 27 (.len false (.tmp 26)),
 gv 6 (.mv (.tmp 27))]
def c20r8 : List GOp:=[
 gv 28 (.fadd 0 (.tmp 2)),
 gv 29 (.load 1 false (.tmp 28)),
 gv 30 (.fadd 2 (.tmp 5)),
 gv 31 (.load 1 false (.tmp 30)),
 gv 32 (.mv (.tmp 6)),
 gv 33 (.idxA 1 (.tmp 31) (.tmp 32)),
 gv 34 (.load 1 false (.tmp 33)),
 gv 35 (.idxA 4 (.tmp 29) (.tmp 34)),
 gv 36 (.load 4 true (.tmp 35))]
def c20r8z : GOp:=⟨none,.store 4 (.tmp 5) (.tmp 36),none⟩
def c20l9 : DE:=.seq (.seq (.reg c20r4) (.cond (.tmp 18) (.skip) (.exit 0))) (.block 1 (.join (.reg c20r5) (.join (.seq (.reg c20r6) (.cond (.tmp 24) (.reg c20r7) (.skip))) (.hyl true true 7 c20r8 c20r8z))))
def c20r10 : List GOp:=[
 gv 37 (.fadd 1 (.tmp 2)),
 gv 38 (.load 1 false (.tmp 37)),
 gv 39 (.fadd 3 (.tmp 5)),
 gv 40 (.load 1 false (.tmp 39)),
 gv 41 (.idxA 16 (.tmp 38) (.tmp 40)),
 gv 42 (.load 16 true (.tmp 41)),
 ⟨none,.store 16 (.tmp 4) (.tmp 42),none⟩]
def c20 : EFn:=⟨43,.seq (.reg c20r0) (.seq (.seq (.reg c20r1) (.cond (.tmp 9) (.seq (.reg c20r2) (.ret)) (.skip))) (.seq (.reg c20r3) (.join (.block 0 (.loop c20l9)) (.seq (.reg c20r10) (.ret))))),[.cell 4 16 true]⟩
theorem c20_ok : compF Tryd.prog 20=some c20.er:=by kernel_rfl
set_option maxHeartbeats 4000000 in
theorem table_Lookup_R {P:Program}(hP:P=Tryd.prog)(t_:Table)(f:(A10 Int))(r:Decision)(h:table_Lookup_g t_ f=some r):Fn1 P 20 [vTable t_,vA10Ii64 f] (vDecision r):=by
 refine .walkE (hP▸c20_ok) fun K hK=>?_;unfold table_Lookup_g at h;cbv;refine .g h (fun v hv=>table_Valid_R hP _ v hv) aw_ rfl (fun _=>rfl) fun v1 h=>?_;cbv;refine brkG h ?_ ?_<;>intro h
 ·cbv;obtain rfl:=oj h;exact hK _ _ aw_
 ·cbv;refine .g h (fun _=>rfl) fun x2 h=>?_;cbv;refine .g h (fun ((Attr3,Cuts4,Kids5,Leaf6):Int×(List Int)×(List Int)×Int)=>[.top,.top,.ptr 0 0,.top,.ptr 1 0,.ptr 2 0]++rp 37 .top) (fun (Attr3,Cuts4,Kids5,Leaf6)=>[.cells [.d (.sl (W eNode t_.Nodes)),.d (.sl (W eDecision t_.Leaves))] 28,.cells dz 45,.cells [oi Attr3,.d (.sl (W eIi64 Cuts4)),.d (.sl (W eIi64 Kids5)),oi Leaf6] 64]) (fun y hm Kn1 hKn1=>?_) fun t h=>?_
  ·have h:=hm;clear hm;cbv;refine .g h (fun ((Attr7,Cuts8,Kids9,Leaf10):Int×(List Int)×(List Int)×Int)=>[.top,.top,.ptr 0 0,.ptr 1 0,.ptr 2 0,.ptr 3 0]++rp 37 .top) (fun (Attr7,Cuts8,Kids9,Leaf10)=>[.cells [.d (.sl (W eNode t_.Nodes)),.d (.sl (W eDecision t_.Leaves))] 28,.cells (ca f) 38,.cells dz 45,.cells [oi Attr7,.d (.sl (W eIi64 Cuts8)),.d (.sl (W eIi64 Kids9)),oi Leaf10] 64]) (.nz (.mtE [0,1,2,3] ?_)) fun s x h hr2 Kn2 hKn2=>?_
   ·(cbv;repeat (refine⟨an_,?_⟩;cbv))
   unfold table_Lookup_l22 at h;obtain⟨Attr7,Cuts8,Kids9,Leaf10⟩:=s;cbv;refine brkG h ?_ ?_<;>intro h
   ·cbv;refine .g h (fun (k11:Int)=>[.top,.top,.ptr 0 0,.ptr 1 0,.ptr 2 0,.ptr 3 0,oi k11]++rp 36 .top) (fun k11=>[.cells [.d (.sl (W eNode t_.Nodes)),.d (.sl (W eDecision t_.Leaves))] 28,.cells (ca f) 38,.cells dz 45,.cells [oi Attr7,.d (.sl (W eIi64 Cuts8)),.d (.sl (W eIi64 Kids9)),oi Leaf10] 64]) (fun y hm Kn3 hKn3=>?_) fun t h=>?_
    ·have h:=hm;clear hm;cbv;refine .inl (hP▸c50_ok) ?_;cbv;refine .ga h (fun (_:Unit)=>rp 19 .top) (fun _=>[.cells [.d (.sl (W eNode t_.Nodes)),.d (.sl (W eDecision t_.Leaves))] 28,.cells (ca f) 38,.cells dz 45,.cells [oi Attr7,.d (.sl (W eIi64 Cuts8)),.d (.sl (W eIi64 Kids9)),oi Leaf10] 64]) (fun y hm hr4 Kn4 hKn4=>?_) fun t h=>?_
     ·have h:=hm;clear hm;cbv;refine .g h (fun (v12:Int)=>[.d (.sl (W eIi64 Cuts8)),.clo (.func 51) [] [.ptr 1 0,.ptr 3 0]]++rp 5 .top++[oi (io.len (W eIi64 Cuts8)),oi v12]++rp 10 .top) (fun v12=>[.cells [.d (.sl (W eNode t_.Nodes)),.d (.sl (W eDecision t_.Leaves))] 28,.cells (ca f) 38,.cells dz 45,.cells [oi Attr7,.d (.sl (W eIi64 Cuts8)),.d (.sl (W eIi64 Kids9)),oi Leaf10] 64]) (.nz (.mtE [0,1,2,3] ?_)) fun s x h hr5 Kn5 hKn5=>?_
      ·(cbv;repeat (refine⟨an_,?_⟩;cbv))
      unfold table_Lookup_l26 at h;obtain⟨v12,rfl⟩:=ez s;cbv;refine brkG h ?_ ?_<;>intro h
      ·cbv;refine .g h (fun (v13:Bool)=>[.d (.sl (W eIi64 Cuts8)),.clo (.func 51) [] [.ptr 1 0,.ptr 3 0]]++rp 3 .top++[oi v12,.top,oi (io.len (W eIi64 Cuts8)),oi v12]++rp 7 .top++[ob v13,.top,.top]) (fun v13=>[.cells [.d (.sl (W eNode t_.Nodes)),.d (.sl (W eDecision t_.Leaves))] 28,.cells (ca f) 38,.cells dz 45,.cells [oi Attr7,.d (.sl (W eIi64 Cuts8)),.d (.sl (W eIi64 Kids9)),oi Leaf10] 64]) (fun y hm Kn6 hKn6=>?_) fun t h=>?_
       ·have h:=hm;clear hm;cbv;refine .g h (fun _=>rfl) fun x14 h=>?_;cbv;refine .inl (hP▸c51_ok) ?_;cbv
        refine .c10 h ?_ ?_ ?_ ?_ ?_ ?_ ?_ ?_ ?_ ?_<;>(
         intro hni15 h;cbv;obtain rfl:=oj h;refine hKn6 _ _ _ rfl (.nz (.mtE [0,1,2,3] ?_));(cbv;repeat (refine⟨an_,?_⟩;cbv))
         )
       obtain⟨v13,rfl⟩:=ez t;cbv;refine brkG h ?_ ?_<;>intro h
       ·cbv;obtain rfl:=oj h;obtain rfl:=hr5 _ rfl;obtain rfl:=hr4 _ rfl;refine hKn3 _ _ _ rfl (.nz (.mtE [0,1,2,3] ?_));(cbv;repeat (refine⟨an_,?_⟩;cbv))
       ·cbv;obtain rfl:=oj h;refine hKn5 _ _ _ rfl (.nz (.mtE [0,1,2,3] ?_));(cbv;repeat (refine⟨an_,?_⟩;cbv))
      ·cbv;obtain rfl:=oj h;obtain rfl:=hr5 _ rfl;refine hKn4 _ _ _ rfl (.nz (.mtE [0,1,2,3] ?_));(cbv;repeat (refine⟨an_,?_⟩;cbv))
     cbv;obtain rfl:=oj h;refine hKn3 _ _ _ rfl (.nz (.mtE [0,1,2,3] ?_));(cbv;repeat (refine⟨an_,?_⟩;cbv))
    obtain⟨k11,rfl⟩:=ez t;cbv;refine .g h (fun (k16:Int)=>[.top,.top,.ptr 0 0,.ptr 1 0,.ptr 2 0,.ptr 3 0,oi k16]++rp 36 .top) (fun k16=>[.cells [.d (.sl (W eNode t_.Nodes)),.d (.sl (W eDecision t_.Leaves))] 28,.cells (ca f) 38,.cells dz 45,.cells [oi Attr7,.d (.sl (W eIi64 Cuts8)),.d (.sl (W eIi64 Kids9)),oi Leaf10] 64]) (fun y hm Kn3 hKn3=>?_) fun t h=>?_
    ·have h:=hm;clear hm;cbv;refine brkG h ?_ ?_<;>intro h
     ·cbv;obtain rfl:=oj h;refine hKn3 _ _ _ rfl (.nz (.mtE [0,1,2,3] ?_));(cbv;repeat (refine⟨an_,?_⟩;cbv))
     ·cbv;obtain rfl:=oj h;refine hKn3 _ _ _ rfl (.nz (.mtE [0,1,2,3] ?_));(cbv;repeat (refine⟨an_,?_⟩;cbv))
    obtain⟨k16,rfl⟩:=ez t;cbv;refine .g h (fun _=>rfl) fun x17 h=>?_;cbv;refine .g h (fun _=>rfl) fun x18 h=>?_;cbv;obtain rfl:=oj h;refine hKn2 _ _ _ rfl (.nz (.mtE [0,1,2,3] ?_));(cbv;repeat (refine⟨an_,?_⟩;cbv))
   ·cbv;obtain rfl:=oj h;obtain rfl:=hr2 _ rfl;refine hKn1 _ _ _ rfl (.nz (.mtE [0,2,3] ?_));(cbv;repeat (refine⟨an_,?_⟩;cbv))
  obtain⟨Attr3,Cuts4,Kids5,Leaf6⟩:=t;cbv;refine .g h (fun _=>rfl) fun x19 h=>?_;cbv;obtain rfl:=oj h;exact hK _ _ aw_
end Go.SX.Td
namespace Go.SX.Td
open Go Go.SX Go.Proofs
set_option maxRecDepth 100000
def c78r0 : List GOp:=[
 gv 3 (.mv (.const (.bool false)))]
def c78r1 : List GOp:=[
 gv 4 (.mv (.tmp 0)),
 gv 5 (.load 1 false (.tmp 1)),
 gv 6 (.bin .gtr (.tmp 4) (.tmp 5)),
 gv 3 (.mv (.tmp 6))]
def c78 : EFn:=⟨7,.seq (.reg c78r0) (.seq (.reg c78r1) (.ret)),[.tmp 3]⟩
theorem c78_ok : compF Tryd.prog 78=some c78.er:=by kernel_rfl
def c66r0 : List GOp:=[
 gv 5 (.box 3 (.tmp 2)),
 gv 6 (.mv (.const (.int .i64 0)))]
def c66r1 : List GOp:=[
 gv 9 (.mv (.tmp 0)),
 gv 10 (.nilck (.tmp 9)),
 gv 11 (.fadd 1 (.tmp 10)),
 gv 12 (.fadd 0 (.tmp 11)),
 gv 13 (.load 1 false (.tmp 12)),
 gv 14 (.mv (.tmp 1)),
 gv 15 (.idxA 4 (.tmp 13) (.tmp 14)),
 gv 16 (.load 4 true (.tmp 15)),
 gv 7 (.alloc 64 (.agg #[oz,(.slice none 0 0),(.slice none 0 0),oz])),
 ⟨none,.store 4 (.tmp 7) (.tmp 16),none⟩]
def c66r2 : List GOp:=[
 gv 17 (.fadd 1 (.tmp 7)),
 gv 18 (.load 1 false (.tmp 17)),
 gv 19 (.mkfn (.func 78) [] [(.tmp 5)]),
 gv 20 (.call 50 [(.tmp 18),(.tmp 19)]),
 gv 8 (.mv (.tmp 20))]
def c66r3 : List GOp:=[
 gv 21 (.mv (.tmp 8)),
 gv 22 (.bin .lss (.tmp 21) (.const (.int .i64 0)))]
def c66r4 : List GOp:=[
 gv 23 (.fadd 1 (.tmp 7)),
 gv 24 (.load 1 false (.tmp 23)),
 gv 25 (.len false (.tmp 24)),
 gv 8 (.mv (.tmp 25))]
def c66r5 : List GOp:=[
 gv 26 (.fadd 2 (.tmp 7)),
 gv 27 (.load 1 false (.tmp 26)),
 gv 28 (.mv (.tmp 8)),
 gv 29 (.idxA 1 (.tmp 27) (.tmp 28)),
 gv 30 (.load 1 false (.tmp 29)),
 gv 6 (.mv (.tmp 30))]
def c66 : EFn:=⟨31,.seq (.reg c66r0) (.seq (.reg c66r1) (.join (.reg c66r2) (.join (.seq (.reg c66r3) (.cond (.tmp 22) (.reg c66r4) (.skip))) (.seq (.reg c66r5) (.ret))))),[.tmp 6]⟩
theorem c66_ok : compF Tryd.prog 66=some c66.er:=by kernel_rfl
set_option maxHeartbeats 8000000 in
theorem tkid_R {P:Program}(hP:P=Tryd.prog)(rules:(List Rule))(nodes:(List Node))(leaves:(List Decision))(limits:(A10 Range))(node:Int)(v:Int)(facts:(A10 Int))(equal:(List (ByteArray×Bool)))(r:Int)(h:tkid_b rules nodes leaves limits node v facts equal=some r):SCall P 66 [.cells ([.d (.sl (W eRule rules)),.d (.sl (W eNode nodes)),.d (.sl (W eDecision leaves))]++cR limits++(ca facts++[.hd 1])) 79,.mp .str false (WM Value.string eB equal)] [.ptr 0 0,oi node,oi v] (fun sv own'=>sv=oi r∧own'=[.cells ([.d (.sl (W eRule rules)),.d (.sl (W eNode nodes)),.d (.sl (W eDecision leaves))]++cR limits++(ca facts++[.hd 1])) 79,.mp .str false (WM Value.string eB equal)]):=by
 refine .walkT [0,1] 2 rfl rfl (by decide) (by decide) (hP▸c66_ok) fun K hK=>?_;unfold tkid_b at h;cbv;refine .g h (fun _=>rfl) fun x1 h=>?_;cbv;refine .g h (fun (k2:Int)=>rp 7 .top++[.ptr 2 0,oi k2]++rp 22 .top) (fun k2=>[.cells ([.d (.sl (W eRule rules)),.d (.sl (W eNode nodes)),.d (.sl (W eDecision leaves))]++cR limits++(ca facts++[.hd 1])) 79,.mp .str false (WM Value.string eB equal),.cells [oi x1.Attr,.d (.sl (W eIi64 x1.Cuts)),.d (.sl (W eIi64 x1.Kids)),oi x1.Leaf] 64]) (fun y hm Kn1 hKn1=>?_) fun t h=>?_
 ·have h:=hm;clear hm;cbv;refine .inl (hP▸c50_ok) ?_;cbv;refine .ga h (fun (_:Unit)=>rp 19 .top) (fun _=>[.cells ([.d (.sl (W eRule rules)),.d (.sl (W eNode nodes)),.d (.sl (W eDecision leaves))]++cR limits++(ca facts++[.hd 1])) 79,.mp .str false (WM Value.string eB equal),.cells [oi v] 3,.cells [oi x1.Attr,.d (.sl (W eIi64 x1.Cuts)),.d (.sl (W eIi64 x1.Kids)),oi x1.Leaf] 64]) (fun y hm hr2 Kn2 hKn2=>?_) fun t h=>?_
  ·have h:=hm;clear hm;cbv;refine .g h (fun (v3:Int)=>[.d (.sl (W eIi64 x1.Cuts)),.clo (.func 78) [] [.ptr 2 0]]++rp 5 .top++[oi (io.len (W eIi64 x1.Cuts)),oi v3]++rp 10 .top) (fun v3=>[.cells ([.d (.sl (W eRule rules)),.d (.sl (W eNode nodes)),.d (.sl (W eDecision leaves))]++cR limits++(ca facts++[.hd 1])) 79,.mp .str false (WM Value.string eB equal),.cells [oi v] 3,.cells [oi x1.Attr,.d (.sl (W eIi64 x1.Cuts)),.d (.sl (W eIi64 x1.Kids)),oi x1.Leaf] 64]) (.nz (.mtE [0,1,2,3] ?_)) fun s x h hr3 Kn3 hKn3=>?_
   ·(cbv;repeat (refine⟨an_,?_⟩;cbv))
   unfold tkid_l4 at h;obtain⟨v3,rfl⟩:=ez s;cbv;refine brkG h ?_ ?_<;>intro h
   ·cbv;refine .g h (fun (v4:Bool)=>[.d (.sl (W eIi64 x1.Cuts)),.clo (.func 78) [] [.ptr 2 0]]++rp 3 .top++[oi v3,.top,oi (io.len (W eIi64 x1.Cuts)),oi v3]++rp 7 .top++[ob v4,.top,.top]) (fun v4=>[.cells ([.d (.sl (W eRule rules)),.d (.sl (W eNode nodes)),.d (.sl (W eDecision leaves))]++cR limits++(ca facts++[.hd 1])) 79,.mp .str false (WM Value.string eB equal),.cells [oi v] 3,.cells [oi x1.Attr,.d (.sl (W eIi64 x1.Cuts)),.d (.sl (W eIi64 x1.Kids)),oi x1.Leaf] 64]) (fun y hm Kn4 hKn4=>?_) fun t h=>?_
    ·have h:=hm;clear hm;cbv;refine .g h (fun _=>rfl) fun x5 h=>?_;cbv;refine .inl (hP▸c78_ok) ?_;cbv;obtain rfl:=oj h;refine hKn4 _ _ _ rfl (.nz (.mtE [0,1,2,3] ?_));(cbv;repeat (refine⟨an_,?_⟩;cbv))
    obtain⟨v4,rfl⟩:=ez t;cbv;refine brkG h ?_ ?_<;>intro h
    ·cbv;obtain rfl:=oj h;obtain rfl:=hr3 _ rfl;obtain rfl:=hr2 _ rfl;refine hKn1 _ _ _ rfl (.nz (.mtE [0,1,3] ?_));(cbv;repeat (refine⟨an_,?_⟩;cbv))
    ·cbv;obtain rfl:=oj h;refine hKn3 _ _ _ rfl (.nz (.mtE [0,1,2,3] ?_));(cbv;repeat (refine⟨an_,?_⟩;cbv))
   ·cbv;obtain rfl:=oj h;obtain rfl:=hr3 _ rfl;refine hKn2 _ _ _ rfl (.nz (.mtE [0,1,2,3] ?_));(cbv;repeat (refine⟨an_,?_⟩;cbv))
  cbv;obtain rfl:=oj h;refine hKn1 _ _ _ rfl (.nz (.mtE [0,1,3] ?_));(cbv;repeat (refine⟨an_,?_⟩;cbv))
 obtain⟨k2,rfl⟩:=ez t;cbv;refine .g h (fun (k6:Int)=>rp 7 .top++[.ptr 2 0,oi k6]++rp 22 .top) (fun k6=>[.cells ([.d (.sl (W eRule rules)),.d (.sl (W eNode nodes)),.d (.sl (W eDecision leaves))]++cR limits++(ca facts++[.hd 1])) 79,.mp .str false (WM Value.string eB equal),.cells [oi x1.Attr,.d (.sl (W eIi64 x1.Cuts)),.d (.sl (W eIi64 x1.Kids)),oi x1.Leaf] 64]) (fun y hm Kn1 hKn1=>?_) fun t h=>?_
 ·have h:=hm;clear hm;cbv;refine brkG h ?_ ?_<;>intro h
  ·cbv;obtain rfl:=oj h;refine hKn1 _ _ _ rfl (.nz (.mtE [0,1,2] ?_));(cbv;repeat (refine⟨an_,?_⟩;cbv))
  ·cbv;obtain rfl:=oj h;refine hKn1 _ _ _ rfl (.nz (.mtE [0,1,2] ?_));(cbv;repeat (refine⟨an_,?_⟩;cbv))
 obtain⟨k6,rfl⟩:=ez t;cbv;refine .g h (fun _=>rfl) fun x7 h=>?_;cbv;obtain rfl:=oj h;refine hK _ _ ?_;(cbv;repeat (refine⟨an_,?_⟩;cbv))
end Go.SX.Td
namespace Go.SX.Td
open Go Go.SX Go.Proofs
set_option maxRecDepth 100000
def c77r0 : List GOp:=[
 gv 5 (.mv (.tmp 0)),
 gv 6 (.load 1 false (.tmp 1)),
 gv 7 (.load 1 false (.tmp 2)),
 gv 8 (.nilck (.tmp 6)),
 gv 9 (.fadd 3 (.tmp 8)),
 gv 10 (.idxP 10 2 (.tmp 9) (.tmp 7)),
 gv 11 (.fadd 0 (.tmp 10)),
 gv 12 (.load 1 false (.tmp 11)),
 gv 13 (.bin .gtr (.tmp 5) (.tmp 12)),
 gv 14 (.mv (.tmp 13)),
 gw 15 14 true (.mv (.tmp 0)),
 gw 16 14 true (.load 1 false (.tmp 1)),
 gw 17 14 true (.load 1 false (.tmp 2)),
 gw 18 14 true (.nilck (.tmp 16)),
 gw 19 14 true (.fadd 3 (.tmp 18)),
 gw 20 14 true (.idxP 10 2 (.tmp 19) (.tmp 17)),
 gw 21 14 true (.fadd 1 (.tmp 20)),
 gw 22 14 true (.load 1 false (.tmp 21)),
 gw 23 14 true (.bin .leq (.tmp 15) (.tmp 22)),
 gv 24 (.pick (.tmp 14) (.tmp 23) (.const (.bool false)))]
def c77r1 : List GOp:=[
 gv 25 (.load 1 false (.tmp 3)),
 gv 26 (.mv (.tmp 0)),
 gv 27 (.bslice 3 1 1 oz [(0,(.tmp 26))]),
 gv 28 (.app 3 1 8 oz (.tmp 25) (.tmp 27)),
 ⟨none,.store 1 (.tmp 3) (.tmp 28),none⟩]
def c77 : EFn:=⟨29,.join (.par true true true 18 c77r0) (.cond (.tmp 24) (.reg c77r1) (.skip)),[]⟩
theorem c77_ok : compF Tryd.prog 77=some c77.er:=by kernel_rfl
def c65r0 : List GOp:=[
 gv 6 (.mv (.const (.bool false)))]
def c65r1 : List GOp:=[
 gv 7 (.mv (.tmp 0)),
 gv 8 (.nilck (.tmp 7)),
 gv 9 (.fadd 1 (.tmp 8)),
 gv 10 (.fadd 0 (.tmp 9)),
 gv 11 (.load 1 false (.tmp 10)),
 gv 12 (.mv (.tmp 1)),
 gv 13 (.idxA 4 (.tmp 11) (.tmp 12)),
 gv 14 (.fadd 2 (.tmp 13)),
 gv 15 (.load 1 false (.tmp 14)),
 gv 16 (.len false (.tmp 15)),
 gv 17 (.bin .gtr (.tmp 16) (.const (.int .i64 0))),
 gv 18 (.mv (.tmp 17)),
 gw 19 18 true (.mv (.tmp 0)),
 gw 20 18 true (.nilck (.tmp 19)),
 gw 21 18 true (.fadd 1 (.tmp 20)),
 gw 22 18 true (.fadd 0 (.tmp 21)),
 gw 23 18 true (.load 1 false (.tmp 22)),
 gw 24 18 true (.mv (.tmp 1)),
 gw 25 18 true (.idxA 4 (.tmp 23) (.tmp 24)),
 gw 26 18 true (.fadd 0 (.tmp 25)),
 gw 27 18 true (.load 1 false (.tmp 26)),
 gw 28 18 true (.mv (.tmp 2)),
 gw 29 18 true (.bin .eql (.tmp 27) (.tmp 28)),
 gv 30 (.pick (.tmp 18) (.tmp 29) (.const (.bool false))),
 gv 6 (.mv (.tmp 30))]
def c65 : EFn:=⟨31,.seq (.reg c65r0) (.seq (.reg c65r1) (.ret)),[.tmp 6]⟩
theorem c65_ok : compF Tryd.prog 65=some c65.er:=by kernel_rfl
def c64r0 : List GOp:=[
 gv 4 (.box 77 (.tmp 0)),
 gv 5 (.box 3 (.tmp 1)),
 gv 8 (.mv (.const (.slice none 0 0)))]
def c64r1 : List GOp:=[
 gv 16 (.load 1 false (.tmp 4)),
 gv 17 (.load 1 false (.tmp 5)),
 gv 18 (.nilck (.tmp 16)),
 gv 19 (.fadd 3 (.tmp 18)),
 gv 20 (.idxP 10 2 (.tmp 19) (.tmp 17)),
 gv 21 (.fadd 0 (.tmp 20)),
 gv 22 (.load 1 false (.tmp 21)),
 gv 23 (.bslice 3 1 1 oz [(0,(.tmp 22))]),
 gv 9 (.alloc 62 (.slice none 0 0)),
 ⟨none,.store 1 (.tmp 9) (.tmp 23),none⟩]
def c64r2 : List GOp:=[
 gv 24 (.mkfn (.func 77) [] [(.tmp 4),(.tmp 5),(.tmp 9)]),
 gv 10 (.mv (.tmp 24))]
def c64r3 : List GOp:=[
 gv 25 (.mv (.tmp 2)),
 gv 26 (.len false (.tmp 25)),
 gv 27 (.mv (.const (.int .i64 0)))]
def c64r4 : List GOp:=[
 gv 28 (.bin .lss (.tmp 27) (.tmp 26))]
def c64r5 : List GOp:=[
 gv 29 (.idxA 2 (.tmp 25) (.tmp 27)),
 gv 30 (.load 2 true (.tmp 29)),
 gv 12 (.alloc 82 (.agg #[oz,oz])),
 ⟨none,.store 2 (.tmp 12) (.tmp 30),none⟩]
def c64r6 : List GOp:=[
 gv 31 (.load 1 false (.tmp 4)),
 gv 32 (.nilck (.tmp 31)),
 gv 33 (.fadd 0 (.tmp 32)),
 gv 34 (.fadd 0 (.tmp 33)),
 gv 35 (.load 1 false (.tmp 34)),
 gv 36 (.fadd 0 (.tmp 12)),
 gv 37 (.load 1 false (.tmp 36)),
 gv 38 (.idxA 8 (.tmp 35) (.tmp 37)),
 gv 39 (.fadd 2 (.tmp 38)),
 gv 40 (.load 1 false (.tmp 39)),
 gv 41 (.fadd 1 (.tmp 12)),
 gv 42 (.load 1 false (.tmp 41)),
 gv 43 (.load 1 false (.tmp 5)),
 gv 44 (.idxA 20 (.tmp 40) (.tmp 42)),
 gv 45 (.idxP 10 2 (.tmp 44) (.tmp 43)),
 gv 46 (.load 2 true (.tmp 45)),
 gv 13 (.alloc 55 (.agg #[oz,oz])),
 ⟨none,.store 2 (.tmp 13) (.tmp 46),none⟩]
def c64r7 : List GOp:=[
 gv 47 (.mv (.tmp 10)),
 gv 48 (.fadd 0 (.tmp 13)),
 gv 49 (.load 1 false (.tmp 48)),
 gv 50 (.callv (.tmp 47) [(.tmp 49)])]
def c64r8 : List GOp:=[
 gv 51 (.mv (.tmp 10)),
 gv 52 (.fadd 1 (.tmp 13)),
 gv 53 (.load 1 false (.tmp 52)),
 gv 54 (.bin .add (.tmp 53) (.const (.int .i64 1))),
 gv 55 (.callv (.tmp 51) [(.tmp 54)])]
def c64r9 : List GOp:=[
 gv 56 (.bin .add (.tmp 27) (.const (.int .i64 1))),
 gv 27 (.mv (.tmp 56))]
def c64l10 : DE:=.seq (.reg c64r4) (.seq (.cond (.tmp 28) (.skip) (.exit 0)) (.join (.block 1 (.seq (.reg c64r5) (.join (.par true true true 17 c64r6) (.join (.reg c64r7) (.reg c64r8))))) (.reg c64r9)))
def c64r11 : List GOp:=[
 gv 57 (.load 1 false (.tmp 4)),
 gv 58 (.mv (.tmp 3)),
 gv 59 (.load 1 false (.tmp 5)),
 gv 60 (.call 65 [(.tmp 57),(.tmp 58),(.tmp 59)])]
def c64r12 : List GOp:=[
 gv 61 (.load 1 false (.tmp 4)),
 gv 62 (.nilck (.tmp 61)),
 gv 63 (.fadd 1 (.tmp 62)),
 gv 64 (.fadd 0 (.tmp 63)),
 gv 65 (.load 1 false (.tmp 64)),
 gv 66 (.mv (.tmp 3)),
 gv 67 (.idxA 4 (.tmp 65) (.tmp 66)),
 gv 68 (.fadd 1 (.tmp 67)),
 gv 69 (.load 1 false (.tmp 68)),
 gv 70 (.len false (.tmp 69)),
 gv 71 (.mv (.const (.int .i64 0)))]
def c64r13 : List GOp:=[
 gv 72 (.bin .lss (.tmp 71) (.tmp 70))]
def c64r14 : List GOp:=[
 gv 73 (.idxA 1 (.tmp 69) (.tmp 71)),
 gv 74 (.load 1 false (.tmp 73)),
 gv 15 (.mv (.tmp 74))]
def c64r15 : List GOp:=[
 gv 75 (.mv (.tmp 10)),
 gv 76 (.mv (.tmp 15)),
 gv 77 (.callv (.tmp 75) [(.tmp 76)])]
def c64r16 : List GOp:=[
 gv 78 (.bin .add (.tmp 71) (.const (.int .i64 1))),
 gv 71 (.mv (.tmp 78))]
def c64l17 : DE:=.seq (.reg c64r13) (.seq (.cond (.tmp 72) (.skip) (.exit 2)) (.join (.block 3 (.seq (.reg c64r14) (.reg c64r15))) (.reg c64r16)))
def c64r18 : List GOp:=[
 gv 79 (.load 1 false (.tmp 9)),
 gv 80 (.call 57 [(.tmp 79)])]
def c64r19 : List GOp:=[
 gv 81 (.load 1 false (.tmp 9)),
 gv 82 (.call 58 [(.tmp 81)]),
 gv 8 (.mv (.tmp 82))]
def c64 : EFn:=⟨83,.seq (.reg c64r0) (.join (.hyb true true 9 c64r1) (.seq (.reg c64r2) (.join (.seq (.reg c64r3) (.block 0 (.loop c64l10))) (.join (.join (.reg c64r11) (.cond (.tmp 60) (.seq (.reg c64r12) (.block 2 (.loop c64l17))) (.skip))) (.join (.reg c64r18) (.seq (.reg c64r19) (.ret))))))),[.tmp 8]⟩
theorem c64_ok : compF Tryd.prog 64=some c64.er:=by kernel_rfl
set_option maxHeartbeats 8000000 in
theorem tvals_R {P:Program}(hP:P=Tryd.prog)(rules:(List Rule))(nodes:(List Node))(leaves:(List Decision))(limits:(A10 Range))(attr:Int)(zones:(List Live))(node:Int)(facts:(A10 Int))(equal:(List (ByteArray×Bool)))(r:(List Int))(h:tvals_b rules nodes leaves limits attr zones node facts equal=some r):SCall P 64 [.cells ([.d (.sl (W eRule rules)),.d (.sl (W eNode nodes)),.d (.sl (W eDecision leaves))]++cR limits++(ca facts++[.hd 1])) 79,.mp .str false (WM Value.string eB equal)] [.ptr 0 0,oi attr,.d (.sl (W eLive zones)),oi node] (fun sv own'=>sv=.d (.sl (W eIi64 r))∧own'=[.cells ([.d (.sl (W eRule rules)),.d (.sl (W eNode nodes)),.d (.sl (W eDecision leaves))]++cR limits++(ca facts++[.hd 1])) 79,.mp .str false (WM Value.string eB equal)]):=by
 refine .walkT [0,1] 2 rfl rfl (by decide) (by decide) (hP▸c64_ok) fun K hK=>?_;unfold tvals_b at h;cbv;refine .g h (fun (out1:(List Int))=>[.top,.top,.d (.sl (W eLive zones)),oi node,.ptr 2 0,.ptr 3 0]++rp 3 .top++[.ptr 4 0]++rp 73 .top) (fun out1=>[.cells ([.d (.sl (W eRule rules)),.d (.sl (W eNode nodes)),.d (.sl (W eDecision leaves))]++cR limits++(ca facts++[.hd 1])) 79,.mp .str false (WM Value.string eB equal),.cells [.ptr 0 0] 77,.cells [oi attr] 3,.cells [.hd 5] 62,.row 3 1 (W eIi64 out1)]) (fun y hm Kn1 hKn1=>?_) fun t h=>?_
 ·have h:=hm;clear hm;cbv
  refine .c10 h ?_ ?_ ?_ ?_ ?_ ?_ ?_ ?_ ?_ ?_<;>(
   intro hni2 h;cbv;refine .g (e:=eIi64) h (W_cons aw_ (W_nil' _)) fun l3 h=>?_;cbv;obtain rfl:=oj h;refine hKn1 _ _ _ rfl (.nz (.mtE [0,1,2,3,5,4] ?_));(cbv;repeat (refine⟨an_,?_⟩;cbv))
   )
 obtain⟨out1,rfl⟩:=ez t;cbv;refine .g h (fun (out4:(List Int))=>rp 3 .top++[oi node,.ptr 2 0,.ptr 3 0]++rp 3 .top++[.ptr 4 0,.clo (.func 77) [] [.ptr 2 0,.ptr 3 0,.ptr 4 0]]++rp 72 .top) (fun out4=>[.cells ([.d (.sl (W eRule rules)),.d (.sl (W eNode nodes)),.d (.sl (W eDecision leaves))]++cR limits++(ca facts++[.hd 1])) 79,.mp .str false (WM Value.string eB equal),.cells [.ptr 0 0] 77,.cells [oi attr] 3,.cells [.hd 5] 62,.row 3 1 (W eIi64 out4)]) (fun y hm Kn1 hKn1=>?_) fun t h=>?_
 ·have h:=hm;clear hm;cbv;refine .g h (fun ((out5,v6):(List Int)×Int)=>rp 3 .top++[oi node,.ptr 2 0,.ptr 3 0]++rp 3 .top++[.ptr 4 0,.clo (.func 77) [] [.ptr 2 0,.ptr 3 0,.ptr 4 0]]++rp 14 .top++[.d (.sl (W eLive zones)),oi (io.len (W eLive zones)),oi v6]++rp 55 .top) (fun (out5,v6)=>[.cells ([.d (.sl (W eRule rules)),.d (.sl (W eNode nodes)),.d (.sl (W eDecision leaves))]++cR limits++(ca facts++[.hd 1])) 79,.mp .str false (WM Value.string eB equal),.cells [.ptr 0 0] 77,.cells [oi attr] 3,.cells [.hd 5] 62,.row 3 1 (W eIi64 out5)]) (.nz (.mtE [0,1,2,3,4,5] ?_)) fun s x h hr2 Kn2 hKn2=>?_
  ·(cbv;repeat (refine⟨an_,?_⟩;cbv))
  unfold tvals_l2 at h;obtain⟨out5,v6⟩:=s;cbv;refine brkG h ?_ ?_<;>intro h
  ·cbv;refine .g h (fun (out7:(List Int))=>rp 3 .top++[oi node,.ptr 2 0,.ptr 3 0]++rp 3 .top++[.ptr 4 0,.clo (.func 77) [] [.ptr 2 0,.ptr 3 0,.ptr 4 0]]++rp 14 .top++[.d (.sl (W eLive zones)),oi (io.len (W eLive zones)),oi v6]++rp 55 .top) (fun out7=>[.cells ([.d (.sl (W eRule rules)),.d (.sl (W eNode nodes)),.d (.sl (W eDecision leaves))]++cR limits++(ca facts++[.hd 1])) 79,.mp .str false (WM Value.string eB equal),.cells [.ptr 0 0] 77,.cells [oi attr] 3,.cells [.hd 5] 62,.row 3 1 (W eIi64 out7)]) (fun y hm Kn3 hKn3=>?_) fun t h=>?_
   ·have h:=hm;clear hm;cbv;refine .g h (fun _=>rfl) fun x8 h=>?_;cbv;refine .g h (fun ((Lo9,Hi10):Int×Int)=>rp 3 .top++[oi node,.ptr 2 0,.ptr 3 0]++rp 3 .top++[.ptr 4 0,.clo (.func 77) [] [.ptr 2 0,.ptr 3 0,.ptr 4 0],.top,.top,.ptr 6 0]++rp 11 .top++[.d (.sl (W eLive zones)),oi (io.len (W eLive zones)),oi v6]++rp 55 .top) (fun (Lo9,Hi10)=>[.cells ([.d (.sl (W eRule rules)),.d (.sl (W eNode nodes)),.d (.sl (W eDecision leaves))]++cR limits++(ca facts++[.hd 1])) 79,.mp .str false (WM Value.string eB equal),.cells [.ptr 0 0] 77,.cells [oi attr] 3,.cells [.hd 5] 62,.row 3 1 (W eIi64 out5),.cells [oi Lo9,oi Hi10] 55]) (fun y hm Kn4 hKn4=>?_) fun t h=>?_
    ·have h:=hm;clear hm;cbv;refine .g h (fun _=>rfl) fun x11 h=>?_;cbv;refine .g h (fun _=>rfl) fun x12 h=>?_;cbv
     refine .c10 h ?_ ?_ ?_ ?_ ?_ ?_ ?_ ?_ ?_ ?_<;>(
      intro hni13 h;cbv;obtain rfl:=oj h;refine hKn4 _ _ _ rfl (.nz (.mtE [0,1,2,3,4,5,7] ?_));(cbv;repeat (refine⟨an_,?_⟩;cbv))
      )
    obtain⟨Lo9,Hi10⟩:=t;cbv;refine .g h (fun (out14:(List Int))=>rp 3 .top++[oi node,.ptr 2 0,.ptr 3 0]++rp 3 .top++[.ptr 4 0,.clo (.func 77) [] [.ptr 2 0,.ptr 3 0,.ptr 4 0],.top,.top,.ptr 6 0]++rp 11 .top++[.d (.sl (W eLive zones)),oi (io.len (W eLive zones)),oi v6]++rp 55 .top) (fun out14=>[.cells ([.d (.sl (W eRule rules)),.d (.sl (W eNode nodes)),.d (.sl (W eDecision leaves))]++cR limits++(ca facts++[.hd 1])) 79,.mp .str false (WM Value.string eB equal),.cells [.ptr 0 0] 77,.cells [oi attr] 3,.cells [.hd 5] 62,.row 3 1 (W eIi64 out14),.cells [oi Lo9,oi Hi10] 55]) (fun y hm Kn4 hKn4=>?_) fun t h=>?_
    ·have h:=hm;clear hm;cbv;refine .inl (hP▸c77_ok) ?_;cbv;refine .g h (fun (v15:Bool)=>[oi Lo9,.top,.top,.ptr 4 0]++rp 20 .top++[ob v15]++rp 4 .top) (fun v15=>[.cells ([.d (.sl (W eRule rules)),.d (.sl (W eNode nodes)),.d (.sl (W eDecision leaves))]++cR limits++(ca facts++[.hd 1])) 79,.mp .str false (WM Value.string eB equal),.cells [.ptr 0 0] 77,.cells [oi attr] 3,.cells [.hd 5] 62,.row 3 1 (W eIi64 out5),.cells [oi Lo9,oi Hi10] 55]) (fun y hm Kn5 hKn5=>?_) fun t h=>?_
     ·have h:=hm;clear hm;cbv
      refine .c10 h ?_ ?_ ?_ ?_ ?_ ?_ ?_ ?_ ?_ ?_<;>(
       intro hnix16 h;cbv;refine brkG h ?_ ?_<;>intro h
       ·cbv;refine .at _ hnix16 (by decide) ?_;cbv;obtain rfl:=oj h;refine hKn5 _ _ _ rfl (.nz (.mtE [0,1,2,3,4,5,6] ?_));(cbv;repeat (refine⟨an_,?_⟩;cbv))
       ·cbv;obtain rfl:=oj h;refine hKn5 _ _ _ rfl (.nz (.mtE [0,1,2,3,4,5,6] ?_));(cbv;repeat (refine⟨an_,?_⟩;cbv))
       )
     obtain⟨v15,rfl⟩:=ez t;cbv;refine brkG h ?_ ?_<;>intro h
     ·cbv;refine .g (e:=eIi64) h (W_cons aw_ (W_nil' _)) fun l17 h=>?_;cbv;refine .g h rfl (fun _=>rfl) (by decide) fun l18 h=>?_;cbv;obtain rfl:=oj h;refine hKn4 _ _ _ rfl (.nz (.mtE [0,1,2,3,4,8,6] ?_));(cbv;repeat (refine⟨an_,?_⟩;cbv))
     ·cbv;obtain rfl:=oj h;refine hKn4 _ _ _ rfl (.nz (.mtE [0,1,2,3,4,5,6] ?_));(cbv;repeat (refine⟨an_,?_⟩;cbv))
    obtain⟨out14,rfl⟩:=ez t;cbv;refine .inl (hP▸c77_ok) ?_;cbv;refine .g h (fun (v19:Bool)=>[oi (io.ar .add .i64 Hi10 1),.top,.top,.ptr 4 0]++rp 20 .top++[ob v19]++rp 4 .top) (fun v19=>[.cells ([.d (.sl (W eRule rules)),.d (.sl (W eNode nodes)),.d (.sl (W eDecision leaves))]++cR limits++(ca facts++[.hd 1])) 79,.mp .str false (WM Value.string eB equal),.cells [.ptr 0 0] 77,.cells [oi attr] 3,.cells [.hd 5] 62,.row 3 1 (W eIi64 out14),.cells [oi Lo9,oi Hi10] 55]) (fun y hm Kn4 hKn4=>?_) fun t h=>?_
    ·have h:=hm;clear hm;cbv
     refine .c10 h ?_ ?_ ?_ ?_ ?_ ?_ ?_ ?_ ?_ ?_<;>(
      intro hni20 h;cbv;refine brkG h ?_ ?_<;>intro h
      ·cbv;refine .at _ hni20 (by decide) ?_;cbv;obtain rfl:=oj h;refine hKn4 _ _ _ rfl (.nz (.mtE [0,1,2,3,4,5,6] ?_));(cbv;repeat (refine⟨an_,?_⟩;cbv))
      ·cbv;obtain rfl:=oj h;refine hKn4 _ _ _ rfl (.nz (.mtE [0,1,2,3,4,5,6] ?_));(cbv;repeat (refine⟨an_,?_⟩;cbv))
      )
    obtain⟨v19,rfl⟩:=ez t;cbv;refine brkG h ?_ ?_<;>intro h
    ·cbv;refine .g (e:=eIi64) h (W_cons aw_ (W_nil' _)) fun l21 h=>?_;cbv;refine .g h rfl (fun _=>rfl) (by decide) fun l22 h=>?_;cbv;obtain rfl:=oj h;refine hKn3 _ _ _ rfl (.nz (.mtE [0,1,2,3,4,8] ?_));(cbv;repeat (refine⟨an_,?_⟩;cbv))
    ·cbv;obtain rfl:=oj h;refine hKn3 _ _ _ rfl (.nz (.mtE [0,1,2,3,4,5] ?_));(cbv;repeat (refine⟨an_,?_⟩;cbv))
   obtain⟨out7,rfl⟩:=ez t;cbv;obtain rfl:=oj h;refine hKn2 _ _ _ rfl (.nz (.mtE [0,1,2,3,4,5] ?_));(cbv;repeat (refine⟨an_,?_⟩;cbv))
  ·cbv;obtain rfl:=oj h;obtain rfl:=hr2 _ rfl;refine hKn1 _ _ _ rfl (.nz (.mtE [0,1,2,3,4,5] ?_));(cbv;repeat (refine⟨an_,?_⟩;cbv))
 obtain⟨out4,rfl⟩:=ez t;cbv;refine .g h (fun (out23:(List Int))=>rp 9 .top++[.ptr 2 0]++rp 73 .top) (fun out23=>[.cells ([.d (.sl (W eRule rules)),.d (.sl (W eNode nodes)),.d (.sl (W eDecision leaves))]++cR limits++(ca facts++[.hd 1])) 79,.mp .str false (WM Value.string eB equal),.cells [.hd 3] 62,.row 3 1 (W eIi64 out23)]) (fun y hm Kn1 hKn1=>?_) fun t h=>?_
 ·have h:=hm;clear hm;cbv;refine .g h (fun (v24:Bool)=>rp 3 .top++[oi node,.ptr 2 0]++rp 4 .top++[.ptr 3 0,.clo (.func 77) [] [.ptr 2 0,.ptr 5 0,.ptr 3 0]]++rp 49 .top++[ob v24]++rp 22 .top) (fun v24=>[.cells ([.d (.sl (W eRule rules)),.d (.sl (W eNode nodes)),.d (.sl (W eDecision leaves))]++cR limits++(ca facts++[.hd 1])) 79,.mp .str false (WM Value.string eB equal),.cells [.ptr 0 0] 77,.cells [.hd 4] 62,.row 3 1 (W eIi64 out4),.cells [oi attr] 3]) (fun y hm Kn2 hKn2=>?_) fun t h=>?_
  ·have h:=hm;clear hm;cbv;refine .inl (hP▸c65_ok) ?_;cbv;refine .g h (fun _=>rfl) fun x25 h=>?_;cbv;refine brkG h ?_ ?_<;>intro h
   ·cbv;refine .g h (fun _=>rfl) fun x26 h=>?_;cbv;obtain rfl:=oj h;refine hKn2 _ _ _ rfl (.nz (.mtE [0,1,2,4,5,3] ?_));(cbv;repeat (refine⟨an_,?_⟩;cbv))
   ·cbv;obtain rfl:=oj h;refine hKn2 _ _ _ rfl (.nz (.mtE [0,1,2,4,5,3] ?_));(cbv;repeat (refine⟨an_,?_⟩;cbv))
  obtain⟨v24,rfl⟩:=ez t;cbv;refine brkG h ?_ ?_<;>intro h
  ·cbv;refine .g h (fun _=>rfl) fun x27 h=>?_;cbv;refine .g h (fun ((out28,v29):(List Int)×Int)=>rp 9 .top++[.ptr 2 0,.clo (.func 77) [] [.ptr 4 0,.ptr 5 0,.ptr 2 0]]++rp 58 .top++[.d (.sl (W eIi64 x27.Cuts)),oi (io.len (W eIi64 x27.Cuts)),oi v29]++rp 11 .top) (fun (out28,v29)=>[.cells ([.d (.sl (W eRule rules)),.d (.sl (W eNode nodes)),.d (.sl (W eDecision leaves))]++cR limits++(ca facts++[.hd 1])) 79,.mp .str false (WM Value.string eB equal),.cells [.hd 3] 62,.row 3 1 (W eIi64 out28),.cells [.ptr 0 0] 77,.cells [oi attr] 3]) (.nz (.mtE [0,1,3,4,2,5] ?_)) fun s x h hr2 Kn2 hKn2=>?_
   ·(cbv;repeat (refine⟨an_,?_⟩;cbv))
   unfold tvals_l4 at h;obtain⟨out28,v29⟩:=s;cbv;refine brkG h ?_ ?_<;>intro h
   ·cbv;refine .g h (fun (out30:(List Int))=>rp 9 .top++[.ptr 2 0,.clo (.func 77) [] [.ptr 4 0,.ptr 5 0,.ptr 2 0]]++rp 58 .top++[.d (.sl (W eIi64 x27.Cuts)),oi (io.len (W eIi64 x27.Cuts)),oi v29]++rp 11 .top) (fun out30=>[.cells ([.d (.sl (W eRule rules)),.d (.sl (W eNode nodes)),.d (.sl (W eDecision leaves))]++cR limits++(ca facts++[.hd 1])) 79,.mp .str false (WM Value.string eB equal),.cells [.hd 3] 62,.row 3 1 (W eIi64 out30),.cells [.ptr 0 0] 77,.cells [oi attr] 3]) (fun y hm Kn3 hKn3=>?_) fun t h=>?_
    ·have h:=hm;clear hm;cbv;refine .g h (fun _=>rfl) fun x31 h=>?_;cbv;refine .inl (hP▸c77_ok) ?_;cbv;refine .g h (fun (v32:Bool)=>[oi x31,.top,.top,.ptr 2 0]++rp 20 .top++[ob v32]++rp 4 .top) (fun v32=>[.cells ([.d (.sl (W eRule rules)),.d (.sl (W eNode nodes)),.d (.sl (W eDecision leaves))]++cR limits++(ca facts++[.hd 1])) 79,.mp .str false (WM Value.string eB equal),.cells [.hd 3] 62,.row 3 1 (W eIi64 out28),.cells [.ptr 0 0] 77,.cells [oi attr] 3]) (fun y hm Kn4 hKn4=>?_) fun t h=>?_
     ·have h:=hm;clear hm;cbv
      refine .c10 h ?_ ?_ ?_ ?_ ?_ ?_ ?_ ?_ ?_ ?_<;>(
       intro hni33 h;cbv;refine brkG h ?_ ?_<;>intro h
       ·cbv;refine .at _ hni33 (by decide) ?_;cbv;obtain rfl:=oj h;refine hKn4 _ _ _ rfl (.nz (.mtE [0,1,2,3,4,5] ?_));(cbv;repeat (refine⟨an_,?_⟩;cbv))
       ·cbv;obtain rfl:=oj h;refine hKn4 _ _ _ rfl (.nz (.mtE [0,1,2,3,4,5] ?_));(cbv;repeat (refine⟨an_,?_⟩;cbv))
       )
     obtain⟨v32,rfl⟩:=ez t;cbv;refine brkG h ?_ ?_<;>intro h
     ·cbv;refine .g (e:=eIi64) h (W_cons aw_ (W_nil' _)) fun l34 h=>?_;cbv;refine .g h rfl (fun _=>rfl) (by decide) fun l35 h=>?_;cbv;obtain rfl:=oj h;refine hKn3 _ _ _ rfl (.nz (.mtE [0,1,2,7,4,5] ?_));(cbv;repeat (refine⟨an_,?_⟩;cbv))
     ·cbv;obtain rfl:=oj h;refine hKn3 _ _ _ rfl (.nz (.mtE [0,1,2,3,4,5] ?_));(cbv;repeat (refine⟨an_,?_⟩;cbv))
    obtain⟨out30,rfl⟩:=ez t;cbv;obtain rfl:=oj h;refine hKn2 _ _ _ rfl (.nz (.mtE [0,1,2,3,4,5] ?_));(cbv;repeat (refine⟨an_,?_⟩;cbv))
   ·cbv;obtain rfl:=oj h;obtain rfl:=hr2 _ rfl;refine hKn1 _ _ _ rfl (.nz (.mtE [0,1,2,3] ?_));(cbv;repeat (refine⟨an_,?_⟩;cbv))
  ·cbv;obtain rfl:=oj h;refine hKn1 _ _ _ rfl (.nz (.mtE [0,1,3,4] ?_));(cbv;repeat (refine⟨an_,?_⟩;cbv))
 obtain⟨out23,rfl⟩:=ez t;cbv;refine .g h (fun (out36:(List Int))=>rp 9 .top++[.ptr 2 0]++rp 73 .top) (fun out36=>[.cells ([.d (.sl (W eRule rules)),.d (.sl (W eNode nodes)),.d (.sl (W eDecision leaves))]++cR limits++(ca facts++[.hd 1])) 79,.mp .str false (WM Value.string eB equal),.cells [.hd 3] 62,.row 3 1 (W eIi64 out36)]) (fun y hm Kn1 hKn1=>?_) fun t h=>?_
 ·have h:=hm;clear hm;cbv;obtain⟨l37,hm,h⟩:=Option.bind_eq_some_iff.1 h;refine .emb [3] (slices_Sort_R hP _ _ hm) (by (cbv;repeat (refine⟨an_,?_⟩;cbv))) fun sv0 own0 hq _=>?_;obtain⟨rfl,rfl⟩:=hq;clear hm;cbv;obtain rfl:=oj h;refine hKn1 _ _ _ rfl (.nz (.mtE [0,1,2,3] ?_));(cbv;repeat (refine⟨an_,?_⟩;cbv))
 obtain⟨out36,rfl⟩:=ez t;cbv;obtain⟨l38,hm,h⟩:=Option.bind_eq_some_iff.1 h;refine .emb [3] (slices_Compact_R hP _ _ hm) (by (cbv;repeat (refine⟨an_,?_⟩;cbv))) fun sv0 own0 hq _=>?_;obtain⟨rfl,rfl⟩:=hq;clear hm;cbv;obtain rfl:=oj h;refine hK _ _ ?_;(cbv;repeat (refine⟨an_,?_⟩;cbv))
end Go.SX.Td
