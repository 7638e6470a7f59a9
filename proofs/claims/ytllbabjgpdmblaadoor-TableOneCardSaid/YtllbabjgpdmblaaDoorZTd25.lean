/- Parts of the proof. -/
import Derived.Test.YtllbabjgpdmblaaDoorZTdT
import Derived.Test.YtllbabjgpdmblaaDoorZTdCompact
import Derived.Test.YtllbabjgpdmblaaDoorZTdSwalkT
set_option linter.unusedSimpArgs false
set_option linter.unusedVariables false
set_option linter.unusedSectionVars false
namespace Go.SX.Td
open Go Go.SX Go.Proofs
set_option maxRecDepth 100000
def c25r0 : List GOp:=[
 gv 2 (.box 28 (.tmp 0)),
 gv 3 (.box 28 (.tmp 1)),
 gv 4 (.mv (.const (.bool false)))]
def c25r1 : List GOp:=[
 gv 7 (.fadd 0 (.tmp 2)),
 gv 8 (.load 1 false (.tmp 7)),
 gv 9 (.len false (.tmp 8)),
 gv 10 (.fadd 0 (.tmp 3)),
 gv 11 (.load 1 false (.tmp 10)),
 gv 12 (.len false (.tmp 11)),
 gv 13 (.bin .neq (.tmp 9) (.tmp 12)),
 gv 14 (.mv (.tmp 13)),
 gw 15 14 false (.fadd 1 (.tmp 2)),
 gw 16 14 false (.load 1 false (.tmp 15)),
 gw 17 14 false (.len false (.tmp 16)),
 gw 18 14 false (.fadd 1 (.tmp 3)),
 gw 19 14 false (.load 1 false (.tmp 18)),
 gw 20 14 false (.len false (.tmp 19)),
 gw 21 14 false (.bin .neq (.tmp 17) (.tmp 20)),
 gv 22 (.pick (.tmp 14) (.const (.bool true)) (.tmp 21))]
def c25r2 : List GOp:=[
 gv 4 (.mv (.const (.bool false)))]
def c25r3 : List GOp:=[
 gv 5 (.mv (.const (.int .i64 0)))]
def c25r4 : List GOp:=[
 gv 23 (.mv (.tmp 5)),
 gv 24 (.fadd 0 (.tmp 2)),
 gv 25 (.load 1 false (.tmp 24)),
 gv 26 (.len false (.tmp 25)),
 gv 27 (.bin .lss (.tmp 23) (.tmp 26))]
def c25r5 : List GOp:=[
 gv 30 (.fadd 0 (.tmp 2)),
 gv 31 (.load 1 false (.tmp 30)),
 gv 32 (.mv (.tmp 5)),
 gv 33 (.idxA 4 (.tmp 31) (.tmp 32)),
 gv 34 (.load 4 true (.tmp 33)),
 gv 35 (.fadd 0 (.tmp 3)),
 gv 36 (.load 1 false (.tmp 35)),
 gv 37 (.mv (.tmp 5)),
 gv 38 (.idxA 4 (.tmp 36) (.tmp 37)),
 gv 39 (.load 4 true (.tmp 38)),
 gv 40 (.call 54 [(.tmp 34),(.tmp 39)]),
 gv 41 (.un .not (.tmp 40))]
def c25r6 : List GOp:=[
 gv 4 (.mv (.const (.bool false)))]
def c25r7 : List GOp:=[
 gv 28 (.mv (.tmp 5)),
 gv 29 (.bin .add (.tmp 28) (.const (.int .i64 1))),
 gv 5 (.mv (.tmp 29))]
def c25l8 : DE:=.seq (.seq (.reg c25r4) (.cond (.tmp 27) (.skip) (.exit 0))) (.seq (.block 1 (.seq (.par false false false 10 c25r5) (.cond (.tmp 41) (.seq (.reg c25r6) (.ret)) (.skip)))) (.reg c25r7))
def c25r9 : List GOp:=[
 gv 6 (.mv (.const (.int .i64 0)))]
def c25r10 : List GOp:=[
 gv 42 (.mv (.tmp 6)),
 gv 43 (.fadd 1 (.tmp 2)),
 gv 44 (.load 1 false (.tmp 43)),
 gv 45 (.len false (.tmp 44)),
 gv 46 (.bin .lss (.tmp 42) (.tmp 45))]
def c25r11 : List GOp:=[
 gv 49 (.fadd 1 (.tmp 2)),
 gv 50 (.load 1 false (.tmp 49)),
 gv 51 (.mv (.tmp 6)),
 gv 52 (.idxA 16 (.tmp 50) (.tmp 51)),
 gv 53 (.load 16 true (.tmp 52)),
 gv 54 (.fadd 1 (.tmp 3)),
 gv 55 (.load 1 false (.tmp 54)),
 gv 56 (.mv (.tmp 6)),
 gv 57 (.idxA 16 (.tmp 55) (.tmp 56)),
 gv 58 (.load 16 true (.tmp 57)),
 gv 59 (.beq true [.bool,.bool,.bool,.int,.int,.int,.int,.int,.int,.int,.int,.int,.int,.int,.int,.int] (.tmp 53) (.tmp 58))]
def c25r12 : List GOp:=[
 gv 4 (.mv (.const (.bool false)))]
def c25r13 : List GOp:=[
 gv 47 (.mv (.tmp 6)),
 gv 48 (.bin .add (.tmp 47) (.const (.int .i64 1))),
 gv 6 (.mv (.tmp 48))]
def c25l14 : DE:=.seq (.seq (.reg c25r10) (.cond (.tmp 46) (.skip) (.exit 2))) (.seq (.block 3 (.seq (.par true true true 10 c25r11) (.cond (.tmp 59) (.seq (.reg c25r12) (.ret)) (.skip)))) (.reg c25r13))
def c25r15 : List GOp:=[
 gv 4 (.mv (.const (.bool true)))]
def c25 : EFn:=⟨60,.seq (.reg c25r0) (.seq (.join (.reg c25r1) (.cond (.tmp 22) (.seq (.reg c25r2) (.ret)) (.skip))) (.join (.seq (.reg c25r3) (.block 0 (.loop c25l8))) (.join (.seq (.reg c25r9) (.block 2 (.loop c25l14))) (.seq (.reg c25r15) (.ret))))),[.tmp 4]⟩
theorem c25_ok : compF Tryd.prog 25=some c25.er:=by kernel_rfl
set_option maxHeartbeats 4000000 in
theorem ref14_Same_R {P:Program}(hP:P=Tryd.prog)(a:Table)(b:Table)(r:Bool)(h:ref14_Same_g a b=some r):Fn1 P 25 [vTable a,vTable b] (vB r):=by
 refine .walkE (hP▸c25_ok) fun K hK=>?_;unfold ref14_Same_g at h;cbv;refine .g h (fun (v1:Bool)=>[.top,.top,.ptr 0 0,.ptr 1 0]++rp 18 .top++[ob v1]++rp 37 .top) (fun v1=>[.cells [.d (.sl (W eNode a.Nodes)),.d (.sl (W eDecision a.Leaves))] 28,.cells [.d (.sl (W eNode b.Nodes)),.d (.sl (W eDecision b.Leaves))] 28]) (fun y hm Kn1 hKn1=>?_) fun t h=>?_
 ·have h:=hm;clear hm;cbv;refine brkG h ?_ ?_<;>intro h
  ·cbv;obtain rfl:=oj h;refine hKn1 _ _ _ rfl (.nz (.mtE [0,1] ?_));(cbv;repeat (refine⟨an_,?_⟩;cbv))
  ·cbv;obtain rfl:=oj h;refine hKn1 _ _ _ rfl (.nz (.mtE [0,1] ?_));(cbv;repeat (refine⟨an_,?_⟩;cbv))
 obtain⟨v1,rfl⟩:=ez t;cbv;refine brkG h ?_ ?_<;>intro h
 ·cbv;obtain rfl:=oj h;exact hK _ _ aw_
 ·cbv;refine .ga h (fun (_:Unit)=>[.top,.top,.ptr 0 0,.ptr 1 0]++rp 56 .top) (fun _=>[.cells [.d (.sl (W eNode a.Nodes)),.d (.sl (W eDecision a.Leaves))] 28,.cells [.d (.sl (W eNode b.Nodes)),.d (.sl (W eDecision b.Leaves))] 28]) (fun y hm hr1 Kn1 hKn1=>?_) fun t h=>?_
  ·have h:=hm;clear hm;cbv;refine .g h (fun (i2:Int)=>[.top,.top,.ptr 0 0,.ptr 1 0,.top,oi i2]++rp 54 .top) (fun i2=>[.cells [.d (.sl (W eNode a.Nodes)),.d (.sl (W eDecision a.Leaves))] 28,.cells [.d (.sl (W eNode b.Nodes)),.d (.sl (W eDecision b.Leaves))] 28]) (.nz (.mtE [0,1] ?_)) fun s x h hr2 Kn2 hKn2=>?_
   ·(cbv;repeat (refine⟨an_,?_⟩;cbv))
   unfold ref14_Same_l2 at h;obtain⟨i2,rfl⟩:=ez s;cbv;refine brkG h ?_ ?_<;>intro h
   ·cbv;refine .g h (fun _=>rfl) fun x3 h=>?_;cbv;refine .g h (fun _=>rfl) fun x4 h=>?_;cbv;refine .g h (fun v hv=>ref14_Equal_R hP _ _ v hv) aw_ rfl (fun _=>rfl) fun v5 h=>?_;cbv;refine brkG h ?_ ?_<;>intro h
    ·cbv;obtain rfl:=oj h;obtain rfl:=hr2 _ rfl;obtain rfl:=hr1 _ rfl;exact hK _ _ aw_
    ·cbv;obtain rfl:=oj h;refine hKn2 _ _ _ rfl (.nz (.mtE [0,1] ?_));(cbv;repeat (refine⟨an_,?_⟩;cbv))
   ·cbv;obtain rfl:=oj h;obtain rfl:=hr2 _ rfl;refine hKn1 _ _ _ rfl (.nz (.mtE [0,1] ?_));(cbv;repeat (refine⟨an_,?_⟩;cbv))
  cbv;refine .ga h (fun (_:Unit)=>rp 60 .top) (fun _=>[]) (fun y hm hr1 Kn1 hKn1=>?_) fun t h=>?_
  ·have h:=hm;clear hm;cbv;refine .g h (fun (i6:Int)=>[.top,.top,.ptr 0 0,.ptr 1 0,.top,.top,oi i6]++rp 53 .top) (fun i6=>[.cells [.d (.sl (W eNode a.Nodes)),.d (.sl (W eDecision a.Leaves))] 28,.cells [.d (.sl (W eNode b.Nodes)),.d (.sl (W eDecision b.Leaves))] 28]) (.nz (.mtE [0,1] ?_)) fun s x h hr2 Kn2 hKn2=>?_
   ·(cbv;repeat (refine⟨an_,?_⟩;cbv))
   unfold ref14_Same_l4 at h;obtain⟨i6,rfl⟩:=ez s;cbv;refine brkG h ?_ ?_<;>intro h
   ·cbv;refine .g h (fun _=>rfl) fun x7 h=>?_;cbv;refine .g h (fun _=>rfl) fun x8 h=>?_;cbv;refine brkG h ?_ ?_<;>intro h
    ·cbv;obtain rfl:=oj h;obtain rfl:=hr2 _ rfl;obtain rfl:=hr1 _ rfl;exact hK _ _ aw_
    ·cbv;obtain rfl:=oj h;refine hKn2 _ _ _ rfl (.nz (.mtE [0,1] ?_));(cbv;repeat (refine⟨an_,?_⟩;cbv))
   ·cbv;obtain rfl:=oj h;obtain rfl:=hr2 _ rfl;refine hKn1 _ _ _ rfl (.nz (.mtE [] ?_));(cbv;repeat (refine⟨an_,?_⟩;cbv))
  cbv;obtain rfl:=oj h;exact hK _ _ aw_
end Go.SX.Td
