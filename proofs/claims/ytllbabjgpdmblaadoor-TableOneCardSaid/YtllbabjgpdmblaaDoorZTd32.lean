/- Parts of the proof. -/
import Derived.Test.YtllbabjgpdmblaaDoorZTdT
import Derived.Test.YtllbabjgpdmblaaDoorZTd32d
set_option linter.unusedSimpArgs false
set_option linter.unusedVariables false
set_option linter.unusedSectionVars false
namespace Go.SX.Td
open Go Go.SX Go.Proofs
set_option maxRecDepth 100000
def c60r0 : List GOp:=[
 gv 2 (.box 34 (.tmp 0)),
 gv 4 (.mv (.const (.bool false)))]
def c60r1 : List GOp:=[
 gv 5 (.fadd 1 (.tmp 2)),
 gv 6 (.load 1 false (.tmp 5)),
 gv 7 (.bin .geq (.tmp 6) (.const (.int .i64 1))),
 gv 8 (.mv (.tmp 7)),
 gw 9 8 true (.fadd 1 (.tmp 2)),
 gw 10 8 true (.load 1 false (.tmp 9)),
 gw 11 8 true (.bin .leq (.tmp 10) (.const (.int .i64 1000000))),
 gv 12 (.pick (.tmp 8) (.tmp 11) (.const (.bool false))),
 gv 13 (.mv (.tmp 12)),
 gw 14 13 true (.fadd 0 (.tmp 2)),
 gw 15 13 true (.load 1 false (.tmp 14)),
 gw 16 13 true (.bin .geq (.tmp 15) (.const (.int .i64 0))),
 gv 17 (.pick (.tmp 13) (.tmp 16) (.const (.bool false))),
 gv 18 (.mv (.tmp 17)),
 gw 19 18 true (.fadd 0 (.tmp 2)),
 gw 20 18 true (.load 1 false (.tmp 19)),
 gw 21 18 true (.mv (.tmp 1)),
 gw 22 18 true (.fadd 1 (.tmp 2)),
 gw 23 18 true (.load 1 false (.tmp 22)),
 gw 24 18 true (.bin .mul (.tmp 21) (.tmp 23)),
 gw 25 18 true (.bin .leq (.tmp 20) (.tmp 24)),
 gv 26 (.pick (.tmp 18) (.tmp 25) (.const (.bool false))),
 gv 27 (.mv (.tmp 26)),
 gw 28 27 true (.fadd 0 (.tmp 2)),
 gw 29 27 true (.load 1 false (.tmp 28)),
 gw 30 27 true (.bin .leq (.tmp 29) (.const (.int .i64 1000000))),
 gv 31 (.pick (.tmp 27) (.tmp 30) (.const (.bool false))),
 gv 4 (.mv (.tmp 31))]
def c60 : EFn:=⟨32,.seq (.reg c60r0) (.seq (.reg c60r1) (.ret)),[.tmp 4]⟩
theorem c60_ok : compF Tryd.prog 60=some c60.er:=by kernel_rfl
def c32r0 : List GOp:=[
 gv 1 (.box 36 (.tmp 0)),
 gv 2 (.mv (.const (.bool false)))]
def c32r1 : List GOp:=[
 gv 3 (.fadd 0 (.tmp 1)),
 gv 4 (.load 1 false (.tmp 3))]
def c32r2 : List GOp:=[
 gv 6 (.bin .eql (.tmp 4) (.const (.int .i64 1))),
 gv 5 (.mv (.tmp 6))]
def c32r3 : List GOp:=[
 gv 7 (.fadd 3 (.tmp 1)),
 gv 8 (.load 1 false (.tmp 7)),
 gv 9 (.bin .geq (.tmp 8) (.const (.int .i64 0))),
 gv 10 (.mv (.tmp 9)),
 gw 11 10 true (.fadd 3 (.tmp 1)),
 gw 12 10 true (.load 1 false (.tmp 11)),
 gw 13 10 true (.bin .leq (.tmp 12) (.const (.int .i64 100))),
 gv 14 (.pick (.tmp 10) (.tmp 13) (.const (.bool false))),
 gv 2 (.mv (.tmp 14))]
def c32r4 : List GOp:=[
 gv 16 (.bin .eql (.tmp 4) (.const (.int .i64 3))),
 gv 15 (.mv (.tmp 16))]
def c32r5 : List GOp:=[
 gv 17 (.fadd 3 (.tmp 1)),
 gv 18 (.load 1 false (.tmp 17)),
 gv 19 (.bin .geq (.tmp 18) (.const (.int .i64 0))),
 gv 20 (.mv (.tmp 19)),
 gw 21 20 true (.fadd 3 (.tmp 1)),
 gw 22 20 true (.load 1 false (.tmp 21)),
 gw 23 20 true (.bin .leq (.tmp 22) (.const (.int .i64 10000000))),
 gv 24 (.pick (.tmp 20) (.tmp 23) (.const (.bool false))),
 gv 25 (.mv (.tmp 24)),
 gw 26 25 true (.fadd 4 (.tmp 1)),
 gw 27 25 true (.load 2 true (.tmp 26)),
 gw 28 25 true (.call 60 [(.tmp 27),(.const (.int .i64 1))]),
 gv 29 (.pick (.tmp 25) (.tmp 28) (.const (.bool false))),
 gv 30 (.mv (.tmp 29)),
 gw 31 30 true (.fadd 6 (.tmp 1)),
 gw 32 30 true (.load 2 true (.tmp 31)),
 gw 33 30 true (.call 60 [(.tmp 32),(.const (.int .i64 1))]),
 gv 34 (.pick (.tmp 30) (.tmp 33) (.const (.bool false))),
 gv 2 (.mv (.tmp 34))]
def c32r6 : List GOp:=[
 gv 36 (.bin .eql (.tmp 4) (.const (.int .i64 4))),
 gv 35 (.mv (.tmp 36))]
def c32r7 : List GOp:=[
 gv 37 (.fadd 4 (.tmp 1)),
 gv 38 (.load 2 true (.tmp 37)),
 gv 39 (.call 60 [(.tmp 38),(.const (.int .i64 10))]),
 gv 40 (.mv (.tmp 39)),
 gw 41 40 true (.fadd 6 (.tmp 1)),
 gw 42 40 true (.load 2 true (.tmp 41)),
 gw 43 40 true (.call 60 [(.tmp 42),(.const (.int .i64 1))]),
 gv 44 (.pick (.tmp 40) (.tmp 43) (.const (.bool false))),
 gv 2 (.mv (.tmp 44))]
def c32r8 : List GOp:=[
 gv 46 (.bin .eql (.tmp 4) (.const (.int .i64 5))),
 gv 45 (.mv (.tmp 46))]
def c32r9 : List GOp:=[
 gv 47 (.fadd 4 (.tmp 1)),
 gv 48 (.load 2 true (.tmp 47)),
 gv 49 (.call 60 [(.tmp 48),(.const (.int .i64 1))]),
 gv 2 (.mv (.tmp 49))]
def c32r10 : List GOp:=[
 gv 51 (.bin .eql (.tmp 4) (.const (.int .i64 2))),
 gv 50 (.mv (.tmp 51))]
def c32r11 : List GOp:=[
 gv 52 (.bin .eql (.tmp 4) (.const (.int .i64 6))),
 gv 50 (.mv (.tmp 52))]
def c32r12 : List GOp:=[
 gv 53 (.bin .eql (.tmp 4) (.const (.int .i64 7))),
 gv 50 (.mv (.tmp 53))]
def c32r13 : List GOp:=[
 gv 2 (.mv (.const (.bool true)))]
def c32r14 : List GOp:=[
 gv 2 (.mv (.const (.bool false)))]
def c32 : EFn:=⟨54,.seq (.reg c32r0) (.seq (.seq (.reg c32r1) (.block 0 (.seq (.reg c32r2) (.cond (.tmp 5) (.seq (.reg c32r3) (.ret)) (.seq (.reg c32r4) (.cond (.tmp 15) (.seq (.reg c32r5) (.ret)) (.seq (.reg c32r6) (.cond (.tmp 35) (.seq (.reg c32r7) (.ret)) (.seq (.reg c32r8) (.cond (.tmp 45) (.seq (.reg c32r9) (.ret)) (.join (.seq (.reg c32r10) (.cond (.tmp 50) (.skip) (.seq (.reg c32r11) (.cond (.tmp 50) (.skip) (.reg c32r12))))) (.cond (.tmp 50) (.seq (.reg c32r13) (.ret)) (.skip))))))))))))) (.seq (.reg c32r14) (.ret))),[.tmp 2]⟩
theorem c32_ok : compF Tryd.prog 32=some c32.er:=by kernel_rfl
set_option maxHeartbeats 4000000 in
theorem decide_numbers_R {P:Program}(hP:P=Tryd.prog)(r_:Rule)(r:Bool)(h:decide_numbers_g r_=some r):Fn1 P 32 [vRule r_] (vB r):=by
 refine .walkE (hP▸c32_ok) fun K hK=>?_;unfold decide_numbers_g at h;cbv;refine brkG h ?_ ?_<;>intro h
 ·cbv;refine brkG h ?_ ?_<;>intro h
  ·cbv;obtain rfl:=oj h;exact hK _ _ aw_
  ·cbv;obtain rfl:=oj h;exact hK _ _ aw_
 ·cbv;refine brkG h ?_ ?_<;>intro h
  ·cbv;refine brkG h ?_ ?_<;>intro h
   ·cbv;refine brkG h ?_ ?_<;>intro h
    ·cbv;refine .inl (hP▸c60_ok) ?_;cbv;refine brkG h ?_ ?_<;>intro h
     ·cbv;refine brkG h ?_ ?_<;>intro h
      ·cbv;refine brkG h ?_ ?_<;>intro h
       ·cbv;refine brkG h ?_ ?_<;>intro h
        ·cbv;refine brkG h ?_ ?_<;>intro h
         ·cbv;refine .inl (hP▸c60_ok) ?_;cbv;refine brkG h ?_ ?_<;>intro h
          ·cbv;refine brkG h ?_ ?_<;>intro h
           ·cbv;refine brkG h ?_ ?_<;>intro h
            ·cbv;refine brkG h ?_ ?_<;>intro h
             ·cbv;obtain rfl:=oj h;exact hK _ _ aw_
             ·cbv;obtain rfl:=oj h;exact hK _ _ aw_
            ·cbv;obtain rfl:=oj h;exact hK _ _ aw_
           ·cbv;obtain rfl:=oj h;exact hK _ _ aw_
          ·cbv;obtain rfl:=oj h;exact hK _ _ aw_
         ·cbv;obtain rfl:=oj h;exact hK _ _ aw_
        ·cbv;obtain rfl:=oj h;exact hK _ _ aw_
       ·cbv;obtain rfl:=oj h;exact hK _ _ aw_
      ·cbv;obtain rfl:=oj h;exact hK _ _ aw_
     ·cbv;obtain rfl:=oj h;exact hK _ _ aw_
    ·cbv;obtain rfl:=oj h;exact hK _ _ aw_
   ·cbv;obtain rfl:=oj h;exact hK _ _ aw_
  ·cbv;refine brkG h ?_ ?_<;>intro h
   ·cbv;refine .inl (hP▸c60_ok) ?_;cbv;refine brkG h ?_ ?_<;>intro h
    ·cbv;refine brkG h ?_ ?_<;>intro h
     ·cbv;refine brkG h ?_ ?_<;>intro h
      ·cbv;refine brkG h ?_ ?_<;>intro h
       ·cbv;refine brkG h ?_ ?_<;>intro h
        ·cbv;refine .inl (hP▸c60_ok) ?_;cbv;refine brkG h ?_ ?_<;>intro h
         ·cbv;refine brkG h ?_ ?_<;>intro h
          ·cbv;refine brkG h ?_ ?_<;>intro h
           ·cbv;refine brkG h ?_ ?_<;>intro h
            ·cbv;obtain rfl:=oj h;exact hK _ _ aw_
            ·cbv;obtain rfl:=oj h;exact hK _ _ aw_
           ·cbv;obtain rfl:=oj h;exact hK _ _ aw_
          ·cbv;obtain rfl:=oj h;exact hK _ _ aw_
         ·cbv;obtain rfl:=oj h;exact hK _ _ aw_
        ·cbv;obtain rfl:=oj h;exact hK _ _ aw_
       ·cbv;obtain rfl:=oj h;exact hK _ _ aw_
      ·cbv;obtain rfl:=oj h;exact hK _ _ aw_
     ·cbv;obtain rfl:=oj h;exact hK _ _ aw_
    ·cbv;obtain rfl:=oj h;exact hK _ _ aw_
   ·cbv;refine brkG h ?_ ?_<;>intro h
    ·cbv;refine .inl (hP▸c60_ok) ?_;cbv;refine brkG h ?_ ?_<;>intro h
     ·cbv;refine brkG h ?_ ?_<;>intro h
      ·cbv;refine brkG h ?_ ?_<;>intro h
       ·cbv;refine brkG h ?_ ?_<;>intro h
        ·cbv;obtain rfl:=oj h;exact hK _ _ aw_
        ·cbv;obtain rfl:=oj h;exact hK _ _ aw_
       ·cbv;obtain rfl:=oj h;exact hK _ _ aw_
      ·cbv;obtain rfl:=oj h;exact hK _ _ aw_
     ·cbv;obtain rfl:=oj h;exact hK _ _ aw_
    ·cbv;refine .g h (fun (v1:Bool)=>rp 50 .top++[ob v1]++rp 3 .top) (fun v1=>[]) (fun y hm Kn1 hKn1=>?_) fun t h=>?_
     ·have h:=hm;clear hm;cbv;refine brkG h ?_ ?_<;>intro h
      ·cbv;obtain rfl:=oj h;refine hKn1 _ _ _ rfl (.nz (.mtE [] ?_));(cbv;repeat (refine⟨an_,?_⟩;cbv))
      ·cbv;refine brkG h ?_ ?_<;>intro h
       ·cbv;obtain rfl:=oj h;refine hKn1 _ _ _ rfl (.nz (.mtE [] ?_));(cbv;repeat (refine⟨an_,?_⟩;cbv))
       ·cbv;obtain rfl:=oj h;refine hKn1 _ _ _ rfl (.nz (.mtE [] ?_));(cbv;repeat (refine⟨an_,?_⟩;cbv))
     obtain⟨v1,rfl⟩:=ez t;cbv;refine brkG h ?_ ?_<;>intro h
     ·cbv;obtain rfl:=oj h;exact hK _ _ aw_
     ·cbv;obtain rfl:=oj h;exact hK _ _ aw_
end Go.SX.Td
namespace Go.SX.Td
open Go Go.SX Go.Proofs
set_option maxRecDepth 100000
def c26r0 : List GOp:=[
 gv 0 (.alloc 57 (.agg #[oz,oz,oz,oz,oz,oz,oz,oz,oz,oz,oz,oz,oz,oz,oz,oz,oz,oz,oz,oz]))]
def c26r1 : List GOp:=[
 gv 1 (.build (.agg #[oz,oz]) [((1,1),(.const (.int .i64 1000000000)))]),
 gv 2 (.build (.agg #[oz,oz]) [((1,1),(.const (.int .i64 150)))]),
 gv 3 (.build (.agg #[oz,oz]) [((1,1),(.const (.int .i64 1)))]),
 gv 4 (.build (.agg #[oz,oz]) [((1,1),(.const (.int .i64 19)))]),
 gv 5 (.build (.agg #[oz,oz]) [((1,1),(.const (.int .i64 7)))]),
 gv 6 (.build (.agg #[oz,oz]) [((1,1),(.const (.int .i64 319)))]),
 gv 7 (.build (.agg #[oz,oz]) [((1,1),(.const (.int .i64 3)))]),
 gv 8 (.build (.agg #[oz,oz]) [((1,1),(.const (.int .i64 3)))]),
 gv 9 (.build (.agg #[oz,oz]) [((0,1),(.const (.int .i64 1))),((1,1),(.const (.int .i64 12)))]),
 gv 10 (.build (.agg #[oz,oz]) [((1,1),(.const (.int .i64 100)))]),
 gv 11 (.build (.agg #[oz,oz,oz,oz,oz,oz,oz,oz,oz,oz,oz,oz,oz,oz,oz,oz,oz,oz,oz,oz]) [((0,2),(.tmp 1)),((2,2),(.tmp 2)),((4,2),(.tmp 3)),((6,2),(.tmp 4)),((8,2),(.tmp 5)),((10,2),(.tmp 6)),((12,2),(.tmp 7)),((14,2),(.tmp 8)),((16,2),(.tmp 9)),((18,2),(.tmp 10))]),
 ⟨none,.store 20 (.tmp 0) (.tmp 11),none⟩]
def c26 : EFn:=⟨12,.seq (.reg c26r0) (.seq (.reg c26r1) (.ret)),[.cell 0 20 true]⟩
theorem c26_ok : compF Tryd.prog 26=some c26.er:=by kernel_rfl
set_option maxHeartbeats 4000000 in
theorem resolve_Limits_R {P:Program}(hP:P=Tryd.prog)(r:(A10 Range))(h:resolve_Limits_g=some r):Fn1 P 26 [] (vA10Range r):=by
 refine .walkE (hP▸c26_ok) fun K hK=>?_;unfold resolve_Limits_g at h;cbv;obtain rfl:=oj h;exact hK _ _ aw_
end Go.SX.Td
namespace Go.SX.Td
open Go Go.SX Go.Proofs
set_option maxRecDepth 100000
def c35r0 : List GOp:=[
 gv 1 (.box 57 (.tmp 0)),
 gv 2 (.mv (.const (.bool false)))]
def c35r1 : List GOp:=[
 gv 6 (.call 26 []),
 gv 3 (.alloc 57 (.agg #[oz,oz,oz,oz,oz,oz,oz,oz,oz,oz,oz,oz,oz,oz,oz,oz,oz,oz,oz,oz])),
 ⟨none,.store 20 (.tmp 3) (.tmp 6),none⟩]
def c35r2 : List GOp:=[
 gv 7 (.load 20 true (.tmp 1)),
 gv 8 (.mv (.const (.int .i64 0)))]
def c35r3 : List GOp:=[
 gv 9 (.bin .lss (.tmp 8) (.const (.int .i64 10)))]
def c35r4 : List GOp:=[
 gv 10 (.mv (.tmp 8)),
 gv 11 (.idxV 10 2 true (.tmp 7) (.tmp 8)),
 gv 5 (.alloc 55 (.agg #[oz,oz])),
 gv 4 (.mv (.tmp 10)),
 ⟨none,.store 2 (.tmp 5) (.tmp 11),none⟩]
def c35r5 : List GOp:=[
 gv 12 (.fadd 0 (.tmp 5)),
 gv 13 (.load 1 false (.tmp 12)),
 gv 14 (.fadd 1 (.tmp 5)),
 gv 15 (.load 1 false (.tmp 14)),
 gv 16 (.bin .gtr (.tmp 13) (.tmp 15)),
 gv 17 (.mv (.tmp 16)),
 gw 18 17 false (.fadd 0 (.tmp 5)),
 gw 19 17 false (.load 1 false (.tmp 18)),
 gw 20 17 false (.mv (.tmp 4)),
 gw 21 17 false (.idxP 10 2 (.tmp 3) (.tmp 20)),
 gw 22 17 false (.fadd 0 (.tmp 21)),
 gw 23 17 false (.load 1 false (.tmp 22)),
 gw 24 17 false (.bin .lss (.tmp 19) (.tmp 23)),
 gv 25 (.pick (.tmp 17) (.const (.bool true)) (.tmp 24)),
 gv 26 (.mv (.tmp 25)),
 gw 27 26 false (.fadd 1 (.tmp 5)),
 gw 28 26 false (.load 1 false (.tmp 27)),
 gw 29 26 false (.mv (.tmp 4)),
 gw 30 26 false (.idxP 10 2 (.tmp 3) (.tmp 29)),
 gw 31 26 false (.fadd 1 (.tmp 30)),
 gw 32 26 false (.load 1 false (.tmp 31)),
 gw 33 26 false (.bin .gtr (.tmp 28) (.tmp 32)),
 gv 34 (.pick (.tmp 26) (.const (.bool true)) (.tmp 33))]
def c35r6 : List GOp:=[
 gv 2 (.mv (.const (.bool false)))]
def c35r7 : List GOp:=[
 gv 35 (.bin .add (.tmp 8) (.const (.int .i64 1))),
 gv 8 (.mv (.tmp 35))]
def c35l8 : DE:=.seq (.reg c35r3) (.seq (.cond (.tmp 9) (.skip) (.exit 0)) (.seq (.block 1 (.join (.reg c35r4) (.join (.par true true true 21 c35r5) (.cond (.tmp 34) (.seq (.reg c35r6) (.ret)) (.skip))))) (.reg c35r7)))
def c35r9 : List GOp:=[
 gv 2 (.mv (.const (.bool true)))]
def c35 : EFn:=⟨36,.seq (.reg c35r0) (.seq (.reg c35r1) (.join (.seq (.reg c35r2) (.block 0 (.loop c35l8))) (.seq (.reg c35r9) (.ret)))),[.tmp 2]⟩
theorem c35_ok : compF Tryd.prog 35=some c35.er:=by kernel_rfl
set_option maxHeartbeats 4000000 in
theorem decide_within_R {P:Program}(hP:P=Tryd.prog)(z_:(A10 Range))(r:Bool)(h:decide_within_g z_=some r):Fn1 P 35 [vA10Range z_] (vB r):=by
 refine .walkE (hP▸c35_ok) fun K hK=>?_;unfold decide_within_g at h;cbv;refine .g h (fun v hv=>resolve_Limits_R hP v hv) aw_ rfl (fun _=>rfl) fun v1 h=>?_;cbv;refine .ga h (fun (_:Unit)=>rp 36 .top) (fun _=>[]) (fun y hm hr1 Kn1 hKn1=>?_) fun t h=>?_
 ·have h:=hm;clear hm;cbv;refine .g h (fun (v2:Int)=>rp 3 .top++[.ptr 0 0]++rp 3 .top++[.agg (cR z_),oi v2]++rp 27 .top) (fun v2=>[.cells (cR v1) 57]) (.nz (.mtE [1] ?_)) fun s x h hr2 Kn2 hKn2=>?_
  ·(cbv;repeat (refine⟨an_,?_⟩;cbv))
  unfold decide_within_l2 at h;obtain⟨v2,rfl⟩:=ez s;cbv;refine brkG h ?_ ?_<;>intro h
  ·cbv;refine .g h (fun ((Lo3,Hi4):Int×Int)=>rp 3 .top++[.ptr 0 0,oi v2,.ptr 1 0,.top,.agg (cR z_),oi v2]++rp 27 .top) (fun (Lo3,Hi4)=>[.cells (cR v1) 57,.cells [oi Lo3,oi Hi4] 55]) (fun y hm Kn3 hKn3=>?_) fun t h=>?_
   ·have h:=hm;clear hm;cbv
    refine .c10 h ?_ ?_ ?_ ?_ ?_ ?_ ?_ ?_ ?_ ?_<;>(
     intro hni5 h;cbv;obtain rfl:=oj h;refine hKn3 _ _ _ rfl (.nz (.mtE [0,1] ?_));(cbv;repeat (refine⟨an_,?_⟩;cbv))
     )
   obtain⟨Lo3,Hi4⟩:=t;cbv;refine .g h (fun (v6:Bool)=>rp 3 .top++[.ptr 0 0]++rp 3 .top++[.agg (cR z_),oi v2]++rp 25 .top++[ob v6,.top]) (fun v6=>[.cells (cR v1) 57]) (fun y hm Kn3 hKn3=>?_) fun t h=>?_
   ·have h:=hm;clear hm;cbv;refine brkG h ?_ ?_<;>intro h
    ·cbv;obtain rfl:=oj h;refine hKn3 _ _ _ rfl (.nz (.mtE [0] ?_));(cbv;repeat (refine⟨an_,?_⟩;cbv))
    ·cbv
     refine .c10 h ?_ ?_ ?_ ?_ ?_ ?_ ?_ ?_ ?_ ?_<;>(
      intro hni7 h;cbv;refine brkG h ?_ ?_<;>intro h
      ·cbv;obtain rfl:=oj h;refine hKn3 _ _ _ rfl (.nz (.mtE [0] ?_));(cbv;repeat (refine⟨an_,?_⟩;cbv))
      ·cbv;refine .at _ hni7 (by decide) ?_;cbv;obtain rfl:=oj h;refine hKn3 _ _ _ rfl (.nz (.mtE [0] ?_));(cbv;repeat (refine⟨an_,?_⟩;cbv))
      )
   obtain⟨v6,rfl⟩:=ez t;cbv;refine brkG h ?_ ?_<;>intro h
   ·cbv;obtain rfl:=oj h;obtain rfl:=hr2 _ rfl;obtain rfl:=hr1 _ rfl;exact hK _ _ aw_
   ·cbv;obtain rfl:=oj h;refine hKn2 _ _ _ rfl (.nz (.mtE [0] ?_));(cbv;repeat (refine⟨an_,?_⟩;cbv))
  ·cbv;obtain rfl:=oj h;obtain rfl:=hr2 _ rfl;refine hKn1 _ _ _ rfl (.nz (.mtE [] ?_));(cbv;repeat (refine⟨an_,?_⟩;cbv))
 cbv;obtain rfl:=oj h;exact hK _ _ aw_
end Go.SX.Td
namespace Go.SX.Td
open Go Go.SX Go.Proofs
set_option maxRecDepth 100000
def c36r0 : List GOp:=[
 gv 4 (.mv (.const (.bool false)))]
def c36r1 : List GOp:=[
 gv 5 (.mv (.tmp 0)),
 gv 6 (.mv (.tmp 1)),
 gv 7 (.call 62 [(.tmp 5),(.tmp 6)]),
 gv 8 (.bin .geq (.tmp 7) (.const (.int .i64 0))),
 gv 4 (.mv (.tmp 8))]
def c36 : EFn:=⟨9,.seq (.reg c36r0) (.seq (.reg c36r1) (.ret)),[.tmp 4]⟩
theorem c36_ok : compF Tryd.prog 36=some c36.er:=by kernel_rfl
def c62r0 : List GOp:=[
 gv 4 (.mv (.const (.int .i64 0)))]
def c62r1 : List GOp:=[
 gv 6 (.mv (.tmp 0)),
 gv 7 (.len false (.tmp 6)),
 gv 8 (.mv (.const (.int .i64 0)))]
def c62r2 : List GOp:=[
 gv 9 (.bin .lss (.tmp 8) (.tmp 7))]
def c62r3 : List GOp:=[
 gv 10 (.mv (.tmp 8)),
 gv 5 (.mv (.tmp 10))]
def c62r4 : List GOp:=[
 gv 11 (.mv (.tmp 1)),
 gv 12 (.mv (.tmp 0)),
 gv 13 (.mv (.tmp 5)),
 gv 14 (.idxA 8 (.tmp 12) (.tmp 13)),
 gv 15 (.load 8 true (.tmp 14)),
 gv 16 (.callv (.tmp 11) [(.tmp 15)])]
def c62r5 : List GOp:=[
 gv 17 (.mv (.tmp 5)),
 gv 4 (.mv (.tmp 17))]
def c62r6 : List GOp:=[
 gv 18 (.bin .add (.tmp 8) (.const (.int .i64 1))),
 gv 8 (.mv (.tmp 18))]
def c62l7 : DE:=.seq (.reg c62r2) (.seq (.cond (.tmp 9) (.skip) (.exit 0)) (.seq (.block 1 (.seq (.reg c62r3) (.join (.reg c62r4) (.cond (.tmp 16) (.seq (.reg c62r5) (.ret)) (.skip))))) (.reg c62r6)))
def c62r8 : List GOp:=[
 gv 4 (.mv (.const (.int .i64 (-1))))]
def c62 : EFn:=⟨19,.seq (.reg c62r0) (.join (.seq (.reg c62r1) (.block 0 (.loop c62l7))) (.seq (.reg c62r8) (.ret))),[.tmp 4]⟩
theorem c62_ok : compF Tryd.prog 62=some c62.er:=by kernel_rfl
def c31r0 : List GOp:=[
 gv 2 (.box 36 (.tmp 0)),
 gv 3 (.mv (.const (.bool false)))]
def c31r1 : List GOp:=[
 gv 5 (.load 1 false (.tmp 1)),
 gv 6 (.fadd 1 (.tmp 2)),
 gv 7 (.load 1 false (.tmp 6)),
 gv 8 (.mget .str false false (.bool false) (.tmp 5) (.tmp 7)),
 gv 4 (.mv (.tmp 8))]
def c31r2 : List GOp:=[
 gv 9 (.load 1 false (.tmp 1)),
 gv 10 (.fadd 1 (.tmp 2)),
 gv 11 (.load 1 false (.tmp 10)),
 ⟨none,.mset .str false (.tmp 9) (.tmp 11) (.const (.bool true)),none⟩]
def c31r3 : List GOp:=[
 gv 12 (.mv (.tmp 4)),
 gv 13 (.mv (.tmp 12)),
 gw 14 13 false (.load 8 true (.tmp 2)),
 gw 15 13 false (.call 32 [(.tmp 14)]),
 gw 16 13 false (.un .not (.tmp 15)),
 gv 17 (.pick (.tmp 13) (.const (.bool true)) (.tmp 16)),
 gv 18 (.mv (.tmp 17)),
 gw 19 18 false (.fadd 2 (.tmp 2)),
 gw 20 18 false (.load 1 false (.tmp 19)),
 gw 21 18 false (.len false (.tmp 20)),
 gw 22 18 false (.bin .gtr (.tmp 21) (.const (.int .i64 200))),
 gv 23 (.pick (.tmp 18) (.const (.bool true)) (.tmp 22)),
 gv 24 (.mv (.tmp 23)),
 gw 25 24 false (.fadd 2 (.tmp 2)),
 gw 26 24 false (.load 1 false (.tmp 25)),
 gw 27 24 false (.call 33 [(.tmp 26),(.func 34)]),
 gv 28 (.pick (.tmp 24) (.const (.bool true)) (.tmp 27)),
 gv 3 (.mv (.tmp 28))]
def c31 : EFn:=⟨29,.seq (.reg c31r0) (.seq (.reg c31r1) (.seq (.reg c31r2) (.seq (.reg c31r3) (.ret)))),[.tmp 3]⟩
theorem c31_ok : compF Tryd.prog 31=some c31.er:=by kernel_rfl
def c33r0 : List GOp:=[
 gv 4 (.mv (.const (.bool false)))]
def c33r1 : List GOp:=[
 gv 5 (.mv (.tmp 0)),
 gv 6 (.mv (.tmp 1)),
 gv 7 (.call 61 [(.tmp 5),(.tmp 6)]),
 gv 8 (.bin .geq (.tmp 7) (.const (.int .i64 0))),
 gv 4 (.mv (.tmp 8))]
def c33 : EFn:=⟨9,.seq (.reg c33r0) (.seq (.reg c33r1) (.ret)),[.tmp 4]⟩
theorem c33_ok : compF Tryd.prog 33=some c33.er:=by kernel_rfl
def c61r0 : List GOp:=[
 gv 4 (.mv (.const (.int .i64 0)))]
def c61r1 : List GOp:=[
 gv 6 (.mv (.tmp 0)),
 gv 7 (.len false (.tmp 6)),
 gv 8 (.mv (.const (.int .i64 0)))]
def c61r2 : List GOp:=[
 gv 9 (.bin .lss (.tmp 8) (.tmp 7))]
def c61r3 : List GOp:=[
 gv 10 (.mv (.tmp 8)),
 gv 5 (.mv (.tmp 10))]
def c61r4 : List GOp:=[
 gv 11 (.mv (.tmp 1)),
 gv 12 (.mv (.tmp 0)),
 gv 13 (.mv (.tmp 5)),
 gv 14 (.idxA 20 (.tmp 12) (.tmp 13)),
 gv 15 (.load 20 true (.tmp 14)),
 gv 16 (.callv (.tmp 11) [(.tmp 15)])]
def c61r5 : List GOp:=[
 gv 17 (.mv (.tmp 5)),
 gv 4 (.mv (.tmp 17))]
def c61r6 : List GOp:=[
 gv 18 (.bin .add (.tmp 8) (.const (.int .i64 1))),
 gv 8 (.mv (.tmp 18))]
def c61l7 : DE:=.seq (.reg c61r2) (.seq (.cond (.tmp 9) (.skip) (.exit 0)) (.seq (.block 1 (.seq (.reg c61r3) (.join (.reg c61r4) (.cond (.tmp 16) (.seq (.reg c61r5) (.ret)) (.skip))))) (.reg c61r6)))
def c61r8 : List GOp:=[
 gv 4 (.mv (.const (.int .i64 (-1))))]
def c61 : EFn:=⟨19,.seq (.reg c61r0) (.join (.seq (.reg c61r1) (.block 0 (.loop c61l7))) (.seq (.reg c61r8) (.ret))),[.tmp 4]⟩
theorem c61_ok : compF Tryd.prog 61=some c61.er:=by kernel_rfl
def c34r0 : List GOp:=[
 gv 1 (.box 57 (.tmp 0)),
 gv 2 (.mv (.const (.bool false)))]
def c34r1 : List GOp:=[
 gv 3 (.load 20 true (.tmp 1)),
 gv 4 (.call 35 [(.tmp 3)]),
 gv 5 (.un .not (.tmp 4)),
 gv 2 (.mv (.tmp 5))]
def c34 : EFn:=⟨6,.seq (.reg c34r0) (.seq (.reg c34r1) (.ret)),[.tmp 2]⟩
theorem c34_ok : compF Tryd.prog 34=some c34.er:=by kernel_rfl
def c15r0 : List GOp:=[
 gv 1 (.box 24 (.tmp 0)),
 gv 2 (.mv (.const (.bool false)))]
def c15r1 : List GOp:=[
 gv 5 (.mkm .str false),
 gv 3 (.alloc 72 (.map none)),
 ⟨none,.store 1 (.tmp 3) (.tmp 5),none⟩]
def c15r2 : List GOp:=[
 gv 6 (.mkfn (.func 31) [] [(.tmp 3)]),
 gv 4 (.mv (.tmp 6))]
def c15r3 : List GOp:=[
 gv 7 (.fadd 0 (.tmp 1)),
 gv 8 (.load 1 false (.tmp 7)),
 gv 9 (.len false (.tmp 8)),
 gv 10 (.bin .leq (.tmp 9) (.const (.int .i64 200))),
 gv 11 (.mv (.tmp 10)),
 gw 12 11 true (.fadd 0 (.tmp 1)),
 gw 13 11 true (.load 1 false (.tmp 12)),
 gw 14 11 true (.mv (.tmp 4)),
 gw 15 11 true (.call 36 [(.tmp 13),(.tmp 14)]),
 gw 16 11 true (.un .not (.tmp 15)),
 gv 17 (.pick (.tmp 11) (.tmp 16) (.const (.bool false))),
 gv 2 (.mv (.tmp 17))]
def c15 : EFn:=⟨18,.seq (.reg c15r0) (.seq (.reg c15r1) (.seq (.reg c15r2) (.seq (.reg c15r3) (.ret)))),[.tmp 2]⟩
theorem c15_ok : compF Tryd.prog 15=some c15.er:=by kernel_rfl
set_option maxHeartbeats 4000000 in
theorem decide_Valid_R {P:Program}(hP:P=Tryd.prog)(p:Policy)(r:Bool)(h:decide_Valid_g p=some r):Fn1 P 15 [vPolicy p] (vB r):=by
 refine .walkE (hP▸c15_ok) fun K hK=>?_;unfold decide_Valid_g at h;cbv;refine brkG h ?_ ?_<;>intro h
 ·cbv;refine .inl (hP▸c36_ok) ?_;cbv;refine .inl (hP▸c62_ok) ?_;cbv;refine .ga h (fun (own1:(List (ByteArray×Bool)))=>rp 19 .top) (fun own1=>[.cells [.d (.sl (W eRule p.Rules))] 24,.mp .str false (WM Value.string eB own1),.cells [.hd 1] 72]) (fun y hm hr1 Kn1 hKn1=>?_) fun t h=>?_
  ·have h:=hm;clear hm;cbv;refine .g h (fun ((own2,v3):(List (ByteArray×Bool))×Int)=>[.d (.sl (W eRule p.Rules)),.clo (.func 31) [] [.ptr 2 0]]++rp 5 .top++[oi (io.len (W eRule p.Rules)),oi v3]++rp 10 .top) (fun (own2,v3)=>[.cells [.d (.sl (W eRule p.Rules))] 24,.mp .str false (WM Value.string eB own2),.cells [.hd 1] 72]) (.nz (.mtE [0,1,2] ?_)) fun s x h hr2 Kn2 hKn2=>?_
   ·(cbv;repeat (refine⟨an_,?_⟩;cbv))
   unfold decide_Valid_l22 at h;obtain⟨own2,v3⟩:=s;cbv;refine brkG h ?_ ?_<;>intro h
   ·cbv;refine .g h (fun ((own4,v5):(List (ByteArray×Bool))×Bool)=>[.d (.sl (W eRule p.Rules)),.clo (.func 31) [] [.ptr 2 0]]++rp 3 .top++[oi v3,.top,oi (io.len (W eRule p.Rules)),oi v3]++rp 7 .top++[ob v5,.top,.top]) (fun (own4,v5)=>[.cells [.d (.sl (W eRule p.Rules))] 24,.mp .str false (WM Value.string eB own4),.cells [.hd 1] 72]) (fun y hm Kn3 hKn3=>?_) fun t h=>?_
    ·have h:=hm;clear hm;cbv;refine .g h (fun _=>rfl) fun x6 h=>?_;cbv;refine .inl (hP▸c31_ok) ?_;cbv;refine .gs (e:=eB) h (by first | rfl | exact WM_nil' _ _) (fun h=>h) fun y7 h=>?_;cbv;refine .gs (e:=eB) h (by first | rfl | exact WM_nil' _ _) aw_ fun m8 h=>?_;cbv;refine brkG h ?_ ?_<;>intro h
     ·cbv;obtain rfl:=oj h;refine hKn3 _ _ _ rfl (.nz (.mtE [0,1,2] ?_));(cbv;repeat (refine⟨an_,?_⟩;cbv))
     ·cbv;refine .g h (fun v hv=>decide_numbers_R hP _ v hv) aw_ rfl (fun _=>rfl) fun v9 h=>?_;cbv;refine brkG h ?_ ?_<;>intro h
      ·cbv;obtain rfl:=oj h;refine hKn3 _ _ _ rfl (.nz (.mtE [0,1,2] ?_));(cbv;repeat (refine⟨an_,?_⟩;cbv))
      ·cbv;refine brkG h ?_ ?_<;>intro h
       ·cbv;obtain rfl:=oj h;refine hKn3 _ _ _ rfl (.nz (.mtE [0,1,2] ?_));(cbv;repeat (refine⟨an_,?_⟩;cbv))
       ·cbv;refine .inl (hP▸c33_ok) ?_;cbv;refine .inl (hP▸c61_ok) ?_;cbv;refine .ga h (fun (_:Unit)=>rp 19 .top) (fun _=>[.cells [.d (.sl (W eRule p.Rules))] 24,.mp .str false (WM Value.string eB m8),.cells [.hd 1] 72,.cells [oi x6.Kind,.d (.val (.string x6.Name)),.d (.sl (W eA10Range x6.Zones)),oi x6.N,oi x6.R.Num,oi x6.R.Den,oi x6.S.Num,oi x6.S.Den] 36]) (fun y hm hr4 Kn4 hKn4=>?_) fun t h=>?_
        ·have h:=hm;clear hm;cbv;refine .g h (fun (v10:Int)=>[.d (.sl (W eA10Range x6.Zones)),.clo (.func 34) [] []]++rp 5 .top++[oi (io.len (W eA10Range x6.Zones)),oi v10]++rp 10 .top) (fun v10=>[.cells [.d (.sl (W eRule p.Rules))] 24,.mp .str false (WM Value.string eB m8),.cells [.hd 1] 72,.cells [oi x6.Kind,.d (.val (.string x6.Name)),.d (.sl (W eA10Range x6.Zones)),oi x6.N,oi x6.R.Num,oi x6.R.Den,oi x6.S.Num,oi x6.S.Den] 36]) (.nz (.mtE [0,1,2,3] ?_)) fun s x h hr5 Kn5 hKn5=>?_
         ·(cbv;repeat (refine⟨an_,?_⟩;cbv))
         unfold decide_Valid_l26 at h;obtain⟨v10,rfl⟩:=ez s;cbv;refine brkG h ?_ ?_<;>intro h
         ·cbv;refine .g h (fun (v11:Bool)=>[.d (.sl (W eA10Range x6.Zones)),.clo (.func 34) [] []]++rp 3 .top++[oi v10,.top,oi (io.len (W eA10Range x6.Zones)),oi v10]++rp 7 .top++[ob v11,.top,.top]) (fun v11=>[.cells [.d (.sl (W eRule p.Rules))] 24,.mp .str false (WM Value.string eB m8),.cells [.hd 1] 72,.cells [oi x6.Kind,.d (.val (.string x6.Name)),.d (.sl (W eA10Range x6.Zones)),oi x6.N,oi x6.R.Num,oi x6.R.Den,oi x6.S.Num,oi x6.S.Den] 36]) (fun y hm Kn6 hKn6=>?_) fun t h=>?_
          ·have h:=hm;clear hm;cbv;refine .g h (fun _=>rfl) fun x12 h=>?_;cbv;refine .inl (hP▸c34_ok) ?_;cbv;refine .g h (fun v hv=>decide_within_R hP _ v hv) aw_ rfl (fun _=>rfl) fun v13 h=>?_;cbv;obtain rfl:=oj h;refine hKn6 _ _ _ rfl (.nz (.mtE [0,1,2,3] ?_));(cbv;repeat (refine⟨an_,?_⟩;cbv))
          obtain⟨v11,rfl⟩:=ez t;cbv;refine brkG h ?_ ?_<;>intro h
          ·cbv;obtain rfl:=oj h;obtain rfl:=hr5 _ rfl;obtain rfl:=hr4 _ rfl;refine hKn3 _ _ _ rfl (.nz (.mtE [0,1,2] ?_));(cbv;repeat (refine⟨an_,?_⟩;cbv))
          ·cbv;obtain rfl:=oj h;refine hKn5 _ _ _ rfl (.nz (.mtE [0,1,2,3] ?_));(cbv;repeat (refine⟨an_,?_⟩;cbv))
         ·cbv;obtain rfl:=oj h;obtain rfl:=hr5 _ rfl;refine hKn4 _ _ _ rfl (.nz (.mtE [0,1,2,3] ?_));(cbv;repeat (refine⟨an_,?_⟩;cbv))
        cbv;obtain rfl:=oj h;refine hKn3 _ _ _ rfl (.nz (.mtE [0,1,2] ?_));(cbv;repeat (refine⟨an_,?_⟩;cbv))
    obtain⟨own4,v5⟩:=t;cbv;refine brkG h ?_ ?_<;>intro h
    ·cbv;obtain rfl:=oj h;obtain rfl:=hr2 _ rfl;obtain rfl:=hr1 _ rfl;exact hK _ _ aw_
    ·cbv;obtain rfl:=oj h;refine hKn2 _ _ _ rfl (.nz (.mtE [0,1,2] ?_));(cbv;repeat (refine⟨an_,?_⟩;cbv))
   ·cbv;obtain rfl:=oj h;obtain rfl:=hr2 _ rfl;refine hKn1 _ _ _ rfl (.nz (.mtE [0,1,2] ?_));(cbv;repeat (refine⟨an_,?_⟩;cbv))
  obtain⟨own1,rfl⟩:=ez t;cbv;obtain rfl:=oj h;exact hK _ _ aw_
 ·cbv;obtain rfl:=oj h;exact hK _ _ aw_
end Go.SX.Td
namespace Go.SX.Td
open Go Go.SX Go.Proofs
set_option maxRecDepth 100000
def c39r0 : List GOp:=[
 gv 2 (.box 28 (.tmp 0)),
 gv 3 (.box 64 (.tmp 1)),
 gv 4 (.mv (.const (.bool false)))]
def c39r1 : List GOp:=[
 gv 10 (.fadd 2 (.tmp 3)),
 gv 11 (.load 1 false (.tmp 10)),
 gv 12 (.len false (.tmp 11)),
 gv 13 (.bin .eql (.tmp 12) (.const (.int .i64 0)))]
def c39r2 : List GOp:=[
 gv 14 (.fadd 1 (.tmp 3)),
 gv 15 (.load 1 false (.tmp 14)),
 gv 16 (.len false (.tmp 15)),
 gv 17 (.bin .eql (.tmp 16) (.const (.int .i64 0))),
 gv 18 (.mv (.tmp 17)),
 gw 19 18 true (.fadd 0 (.tmp 3)),
 gw 20 18 true (.load 1 false (.tmp 19)),
 gw 21 18 true (.bin .eql (.tmp 20) (.const (.int .i64 0))),
 gv 22 (.pick (.tmp 18) (.tmp 21) (.const (.bool false))),
 gv 23 (.mv (.tmp 22)),
 gw 24 23 true (.fadd 3 (.tmp 3)),
 gw 25 23 true (.load 1 false (.tmp 24)),
 gw 26 23 true (.bin .geq (.tmp 25) (.const (.int .i64 0))),
 gv 27 (.pick (.tmp 23) (.tmp 26) (.const (.bool false))),
 gv 28 (.mv (.tmp 27)),
 gw 29 28 true (.fadd 3 (.tmp 3)),
 gw 30 28 true (.load 1 false (.tmp 29)),
 gw 31 28 true (.fadd 1 (.tmp 2)),
 gw 32 28 true (.load 1 false (.tmp 31)),
 gw 33 28 true (.len false (.tmp 32)),
 gw 34 28 true (.bin .lss (.tmp 30) (.tmp 33)),
 gv 35 (.pick (.tmp 28) (.tmp 34) (.const (.bool false))),
 gv 4 (.mv (.tmp 35))]
def c39r3 : List GOp:=[
 gv 36 (.fadd 0 (.tmp 3)),
 gv 37 (.load 1 false (.tmp 36)),
 gv 38 (.bin .lss (.tmp 37) (.const (.int .i64 0))),
 gv 39 (.mv (.tmp 38)),
 gw 40 39 false (.fadd 0 (.tmp 3)),
 gw 41 39 false (.load 1 false (.tmp 40)),
 gw 42 39 false (.bin .geq (.tmp 41) (.const (.int .i64 10))),
 gv 43 (.pick (.tmp 39) (.const (.bool true)) (.tmp 42)),
 gv 44 (.mv (.tmp 43)),
 gw 45 44 false (.fadd 3 (.tmp 3)),
 gw 46 44 false (.load 1 false (.tmp 45)),
 gw 47 44 false (.bin .neq (.tmp 46) (.const (.int .i64 0))),
 gv 48 (.pick (.tmp 44) (.const (.bool true)) (.tmp 47)),
 gv 49 (.mv (.tmp 48)),
 gw 50 49 false (.fadd 1 (.tmp 3)),
 gw 51 49 false (.load 1 false (.tmp 50)),
 gw 52 49 false (.len false (.tmp 51)),
 gw 53 49 false (.bin .eql (.tmp 52) (.const (.int .i64 0))),
 gv 54 (.pick (.tmp 49) (.const (.bool true)) (.tmp 53)),
 gv 55 (.mv (.tmp 54)),
 gw 56 55 false (.fadd 2 (.tmp 3)),
 gw 57 55 false (.load 1 false (.tmp 56)),
 gw 58 55 false (.len false (.tmp 57)),
 gw 59 55 false (.fadd 1 (.tmp 3)),
 gw 60 55 false (.load 1 false (.tmp 59)),
 gw 61 55 false (.len false (.tmp 60)),
 gw 62 55 false (.bin .add (.tmp 61) (.const (.int .i64 1))),
 gw 63 55 false (.bin .neq (.tmp 58) (.tmp 62)),
 gv 64 (.pick (.tmp 55) (.const (.bool true)) (.tmp 63))]
def c39r4 : List GOp:=[
 gv 4 (.mv (.const (.bool false)))]
def c39r5 : List GOp:=[
 gv 65 (.call 26 []),
 gv 66 (.fadd 0 (.tmp 3)),
 gv 67 (.load 1 false (.tmp 66)),
 gv 68 (.idxV 10 2 true (.tmp 65) (.tmp 67)),
 gv 5 (.alloc 55 (.agg #[oz,oz])),
 ⟨none,.store 2 (.tmp 5) (.tmp 68),none⟩]
def c39r6 : List GOp:=[
 gv 69 (.fadd 1 (.tmp 3)),
 gv 70 (.load 1 false (.tmp 69)),
 gv 71 (.len false (.tmp 70)),
 gv 72 (.mv (.const (.int .i64 0)))]
def c39r7 : List GOp:=[
 gv 73 (.bin .lss (.tmp 72) (.tmp 71))]
def c39r8 : List GOp:=[
 gv 74 (.idxA 1 (.tmp 70) (.tmp 72)),
 gv 75 (.load 1 false (.tmp 74)),
 gv 7 (.mv (.tmp 75))]
def c39r9 : List GOp:=[
 gv 76 (.mv (.tmp 7)),
 gv 77 (.fadd 0 (.tmp 5)),
 gv 78 (.load 1 false (.tmp 77)),
 gv 79 (.bin .leq (.tmp 76) (.tmp 78)),
 gv 80 (.mv (.tmp 79)),
 gw 81 80 false (.mv (.tmp 7)),
 gw 82 80 false (.fadd 1 (.tmp 5)),
 gw 83 80 false (.load 1 false (.tmp 82)),
 gw 84 80 false (.bin .gtr (.tmp 81) (.tmp 83)),
 gv 85 (.pick (.tmp 80) (.const (.bool true)) (.tmp 84))]
def c39r10 : List GOp:=[
 gv 4 (.mv (.const (.bool false)))]
def c39r11 : List GOp:=[
 gv 86 (.mv (.tmp 7)),
 gv 87 (.fadd 0 (.tmp 5)),
 ⟨none,.store 1 (.tmp 87) (.tmp 86),none⟩]
def c39r12 : List GOp:=[
 gv 88 (.bin .add (.tmp 72) (.const (.int .i64 1))),
 gv 72 (.mv (.tmp 88))]
def c39l13 : DE:=.seq (.reg c39r7) (.seq (.cond (.tmp 73) (.skip) (.exit 0)) (.seq (.block 1 (.seq (.reg c39r8) (.seq (.join (.reg c39r9) (.cond (.tmp 85) (.seq (.reg c39r10) (.ret)) (.skip))) (.reg c39r11)))) (.reg c39r12)))
def c39r14 : List GOp:=[
 gv 89 (.fadd 2 (.tmp 3)),
 gv 90 (.load 1 false (.tmp 89)),
 gv 91 (.len false (.tmp 90)),
 gv 92 (.mv (.const (.int .i64 0)))]
def c39r15 : List GOp:=[
 gv 93 (.bin .lss (.tmp 92) (.tmp 91))]
def c39r16 : List GOp:=[
 gv 94 (.mv (.tmp 92)),
 gv 95 (.idxA 1 (.tmp 90) (.tmp 92)),
 gv 96 (.load 1 false (.tmp 95)),
 gv 8 (.mv (.tmp 94)),
 gv 9 (.mv (.tmp 96))]
def c39r17 : List GOp:=[
 gv 97 (.mv (.tmp 9)),
 gv 98 (.bin .lss (.tmp 97) (.const (.int .i64 0))),
 gv 99 (.mv (.tmp 98)),
 gw 100 99 false (.mv (.tmp 9)),
 gw 101 99 false (.fadd 0 (.tmp 2)),
 gw 102 99 false (.load 1 false (.tmp 101)),
 gw 103 99 false (.len false (.tmp 102)),
 gw 104 99 false (.bin .geq (.tmp 100) (.tmp 103)),
 gv 105 (.pick (.tmp 99) (.const (.bool true)) (.tmp 104)),
 gv 106 (.mv (.tmp 105)),
 gw 107 106 false (.mv (.tmp 8)),
 gw 108 106 false (.bin .gtr (.tmp 107) (.const (.int .i64 0))),
 gw 109 106 false (.mv (.tmp 108)),
 gw 110 109 true (.fadd 2 (.tmp 3)),
 gw 111 109 true (.load 1 false (.tmp 110)),
 gw 112 109 true (.mv (.tmp 8)),
 gw 113 109 true (.bin .sub (.tmp 112) (.const (.int .i64 1))),
 gw 114 109 true (.idxA 1 (.tmp 111) (.tmp 113)),
 gw 115 109 true (.load 1 false (.tmp 114)),
 gw 116 109 true (.mv (.tmp 9)),
 gw 117 109 true (.bin .eql (.tmp 115) (.tmp 116)),
 gw 118 106 false (.pick (.tmp 109) (.tmp 117) (.const (.bool false))),
 gv 119 (.pick (.tmp 106) (.const (.bool true)) (.tmp 118)),
 gv 120 (.mv (.tmp 119)),
 gw 121 120 false (.fadd 0 (.tmp 2)),
 gw 122 120 false (.load 1 false (.tmp 121)),
 gw 123 120 false (.mv (.tmp 9)),
 gw 124 120 false (.idxA 4 (.tmp 122) (.tmp 123)),
 gw 125 120 false (.fadd 2 (.tmp 124)),
 gw 126 120 false (.load 1 false (.tmp 125)),
 gw 127 120 false (.len false (.tmp 126)),
 gw 128 120 false (.bin .gtr (.tmp 127) (.const (.int .i64 0))),
 gw 129 120 false (.mv (.tmp 128)),
 gw 130 129 true (.fadd 0 (.tmp 2)),
 gw 131 129 true (.load 1 false (.tmp 130)),
 gw 132 129 true (.mv (.tmp 9)),
 gw 133 129 true (.idxA 4 (.tmp 131) (.tmp 132)),
 gw 134 129 true (.fadd 0 (.tmp 133)),
 gw 135 129 true (.load 1 false (.tmp 134)),
 gw 136 129 true (.fadd 0 (.tmp 3)),
 gw 137 129 true (.load 1 false (.tmp 136)),
 gw 138 129 true (.bin .leq (.tmp 135) (.tmp 137)),
 gw 139 120 false (.pick (.tmp 129) (.tmp 138) (.const (.bool false))),
 gv 140 (.pick (.tmp 120) (.const (.bool true)) (.tmp 139))]
def c39r18 : List GOp:=[
 gv 4 (.mv (.const (.bool false)))]
def c39r19 : List GOp:=[
 gv 141 (.bin .add (.tmp 92) (.const (.int .i64 1))),
 gv 92 (.mv (.tmp 141))]
def c39l20 : DE:=.seq (.reg c39r15) (.seq (.cond (.tmp 93) (.skip) (.exit 2)) (.seq (.block 3 (.seq (.reg c39r16) (.join (.par true true true 41 c39r17) (.cond (.tmp 140) (.seq (.reg c39r18) (.ret)) (.skip))))) (.reg c39r19)))
def c39r21 : List GOp:=[
 gv 4 (.mv (.const (.bool true)))]
def c39 : EFn:=⟨142,.seq (.reg c39r0) (.seq (.seq (.reg c39r1) (.cond (.tmp 13) (.seq (.reg c39r2) (.ret)) (.skip))) (.seq (.join (.reg c39r3) (.cond (.tmp 64) (.seq (.reg c39r4) (.ret)) (.skip))) (.join (.par false false false 5 c39r5) (.join (.seq (.reg c39r6) (.block 0 (.loop c39l13))) (.join (.seq (.reg c39r14) (.block 2 (.loop c39l20))) (.seq (.reg c39r21) (.ret))))))),[.tmp 4]⟩
theorem c39_ok : compF Tryd.prog 39=some c39.er:=by kernel_rfl
set_option maxHeartbeats 4000000 in
theorem table_formed_R {P:Program}(hP:P=Tryd.prog)(t_:Table)(n:Node)(r:Bool)(h:table_formed_g t_ n=some r):Fn1 P 39 [vTable t_,vNode n] (vB r):=by
 refine .walkE (hP▸c39_ok) fun K hK=>?_;unfold table_formed_g at h;cbv;refine brkG h ?_ ?_<;>intro h
 ·cbv;refine brkG h ?_ ?_<;>intro h
  ·cbv;refine brkG h ?_ ?_<;>intro h
   ·cbv;refine brkG h ?_ ?_<;>intro h
    ·cbv;obtain rfl:=oj h;exact hK _ _ aw_
    ·cbv;obtain rfl:=oj h;exact hK _ _ aw_
   ·cbv;obtain rfl:=oj h;exact hK _ _ aw_
  ·cbv;obtain rfl:=oj h;exact hK _ _ aw_
 ·cbv;refine .g h (fun (v1:Bool)=>[.top,.top,.ptr 0 0,.ptr 1 0]++rp 60 .top++[ob v1]++rp 77 .top) (fun v1=>[.cells [.d (.sl (W eNode t_.Nodes)),.d (.sl (W eDecision t_.Leaves))] 28,.cells [oi n.Attr,.d (.sl (W eIi64 n.Cuts)),.d (.sl (W eIi64 n.Kids)),oi n.Leaf] 64]) (fun y hm Kn1 hKn1=>?_) fun t h=>?_
  ·have h:=hm;clear hm;cbv;refine brkG h ?_ ?_<;>intro h
   ·cbv;obtain rfl:=oj h;refine hKn1 _ _ _ rfl (.nz (.mtE [0,1] ?_));(cbv;repeat (refine⟨an_,?_⟩;cbv))
   ·cbv;refine brkG h ?_ ?_<;>intro h
    ·cbv;obtain rfl:=oj h;refine hKn1 _ _ _ rfl (.nz (.mtE [0,1] ?_));(cbv;repeat (refine⟨an_,?_⟩;cbv))
    ·cbv;refine brkG h ?_ ?_<;>intro h
     ·cbv;obtain rfl:=oj h;refine hKn1 _ _ _ rfl (.nz (.mtE [0,1] ?_));(cbv;repeat (refine⟨an_,?_⟩;cbv))
     ·cbv;refine brkG h ?_ ?_<;>intro h
      ·cbv;obtain rfl:=oj h;refine hKn1 _ _ _ rfl (.nz (.mtE [0,1] ?_));(cbv;repeat (refine⟨an_,?_⟩;cbv))
      ·cbv;obtain rfl:=oj h;refine hKn1 _ _ _ rfl (.nz (.mtE [0,1] ?_));(cbv;repeat (refine⟨an_,?_⟩;cbv))
  obtain⟨v1,rfl⟩:=ez t;cbv;refine brkG h ?_ ?_<;>intro h
  ·cbv;obtain rfl:=oj h;exact hK _ _ aw_
  ·cbv;refine .g h (fun ((Lo2,Hi3):Int×Int)=>[.top,.top,.ptr 0 0,.ptr 1 0,.top,.ptr 2 0]++rp 136 .top) (fun (Lo2,Hi3)=>[.cells [.d (.sl (W eNode t_.Nodes)),.d (.sl (W eDecision t_.Leaves))] 28,.cells [oi n.Attr,.d (.sl (W eIi64 n.Cuts)),.d (.sl (W eIi64 n.Kids)),oi n.Leaf] 64,.cells [oi Lo2,oi Hi3] 55]) (fun y hm Kn1 hKn1=>?_) fun t h=>?_
   ·have h:=hm;clear hm;cbv;refine .g h (fun v hv=>resolve_Limits_R hP v hv) aw_ rfl (fun _=>rfl) fun v4 h=>?_;cbv
    refine .c10 h ?_ ?_ ?_ ?_ ?_ ?_ ?_ ?_ ?_ ?_<;>(
     intro hni5 h;cbv;obtain rfl:=oj h;refine hKn1 _ _ _ rfl (.nz (.mtE [0,1,2] ?_));(cbv;repeat (refine⟨an_,?_⟩;cbv))
     )
   obtain⟨Lo2,Hi3⟩:=t;cbv;refine .ga h (fun (_:Unit)=>[.top,.top,.ptr 0 0,.ptr 1 0]++rp 138 .top) (fun _=>[.cells [.d (.sl (W eNode t_.Nodes)),.d (.sl (W eDecision t_.Leaves))] 28,.cells [oi n.Attr,.d (.sl (W eIi64 n.Cuts)),.d (.sl (W eIi64 n.Kids)),oi n.Leaf] 64]) (fun y hm hr1 Kn1 hKn1=>?_) fun t h=>?_
   ·have h:=hm;clear hm;cbv;refine .g h (fun ((Lo6,v7):Int×Int)=>[.top,.top,.ptr 0 0,.ptr 1 0,.top,.ptr 2 0]++rp 64 .top++[.d (.sl (W eIi64 n.Cuts)),oi (io.len (W eIi64 n.Cuts)),oi v7]++rp 69 .top) (fun (Lo6,v7)=>[.cells [.d (.sl (W eNode t_.Nodes)),.d (.sl (W eDecision t_.Leaves))] 28,.cells [oi n.Attr,.d (.sl (W eIi64 n.Cuts)),.d (.sl (W eIi64 n.Kids)),oi n.Leaf] 64,.cells [oi Lo6,oi Hi3] 55]) (.nz (.mtE [0,1,2] ?_)) fun s x h hr2 Kn2 hKn2=>?_
    ·(cbv;repeat (refine⟨an_,?_⟩;cbv))
    unfold table_formed_l2 at h;obtain⟨Lo6,v7⟩:=s;cbv;refine brkG h ?_ ?_<;>intro h
    ·cbv;refine .g h (fun _=>rfl) fun x8 h=>?_;cbv;refine .g h (fun (v9:Bool)=>[.top,.top,.ptr 0 0,.ptr 1 0,.top,.ptr 2 0,.top,oi x8]++rp 62 .top++[.d (.sl (W eIi64 n.Cuts)),oi (io.len (W eIi64 n.Cuts)),oi v7]++rp 12 .top++[ob v9]++rp 56 .top) (fun v9=>[.cells [.d (.sl (W eNode t_.Nodes)),.d (.sl (W eDecision t_.Leaves))] 28,.cells [oi n.Attr,.d (.sl (W eIi64 n.Cuts)),.d (.sl (W eIi64 n.Kids)),oi n.Leaf] 64,.cells [oi Lo6,oi Hi3] 55]) (fun y hm Kn3 hKn3=>?_) fun t h=>?_
     ·have h:=hm;clear hm;cbv;refine brkG h ?_ ?_<;>intro h
      ·cbv;obtain rfl:=oj h;refine hKn3 _ _ _ rfl (.nz (.mtE [0,1,2] ?_));(cbv;repeat (refine⟨an_,?_⟩;cbv))
      ·cbv;obtain rfl:=oj h;refine hKn3 _ _ _ rfl (.nz (.mtE [0,1,2] ?_));(cbv;repeat (refine⟨an_,?_⟩;cbv))
     obtain⟨v9,rfl⟩:=ez t;cbv;refine brkG h ?_ ?_<;>intro h
     ·cbv;obtain rfl:=oj h;obtain rfl:=hr2 _ rfl;obtain rfl:=hr1 _ rfl;exact hK _ _ aw_
     ·cbv;obtain rfl:=oj h;refine hKn2 _ _ _ rfl (.nz (.mtE [0,1,2] ?_));(cbv;repeat (refine⟨an_,?_⟩;cbv))
    ·cbv;obtain rfl:=oj h;obtain rfl:=hr2 _ rfl;refine hKn1 _ _ _ rfl (.nz (.mtE [0,1] ?_));(cbv;repeat (refine⟨an_,?_⟩;cbv))
   cbv;refine .ga h (fun (_:Unit)=>rp 142 .top) (fun _=>[]) (fun y hm hr1 Kn1 hKn1=>?_) fun t h=>?_
   ·have h:=hm;clear hm;cbv;refine .g h (fun (v10:Int)=>[.top,.top,.ptr 0 0,.ptr 1 0]++rp 86 .top++[.d (.sl (W eIi64 n.Kids)),oi (io.len (W eIi64 n.Kids)),oi v10]++rp 49 .top) (fun v10=>[.cells [.d (.sl (W eNode t_.Nodes)),.d (.sl (W eDecision t_.Leaves))] 28,.cells [oi n.Attr,.d (.sl (W eIi64 n.Cuts)),.d (.sl (W eIi64 n.Kids)),oi n.Leaf] 64]) (.nz (.mtE [0,1] ?_)) fun s x h hr2 Kn2 hKn2=>?_
    ·(cbv;repeat (refine⟨an_,?_⟩;cbv))
    unfold table_formed_l4 at h;obtain⟨v10,rfl⟩:=ez s;cbv;refine brkG h ?_ ?_<;>intro h
    ·cbv;refine .g h (fun _=>rfl) fun x11 h=>?_;cbv;refine .g h (fun (v12:Bool)=>[.top,.top,.ptr 0 0,.ptr 1 0]++rp 86 .top++[.d (.sl (W eIi64 n.Kids)),oi (io.len (W eIi64 n.Kids)),oi v10]++rp 47 .top++[ob v12,.top]) (fun v12=>[.cells [.d (.sl (W eNode t_.Nodes)),.d (.sl (W eDecision t_.Leaves))] 28,.cells [oi n.Attr,.d (.sl (W eIi64 n.Cuts)),.d (.sl (W eIi64 n.Kids)),oi n.Leaf] 64]) (fun y hm Kn3 hKn3=>?_) fun t h=>?_
     ·have h:=hm;clear hm;cbv;refine brkG h ?_ ?_<;>intro h
      ·cbv;obtain rfl:=oj h;refine hKn3 _ _ _ rfl (.nz (.mtE [0,1] ?_));(cbv;repeat (refine⟨an_,?_⟩;cbv))
      ·cbv;refine brkG h ?_ ?_<;>intro h
       ·cbv;obtain rfl:=oj h;refine hKn3 _ _ _ rfl (.nz (.mtE [0,1] ?_));(cbv;repeat (refine⟨an_,?_⟩;cbv))
       ·cbv;refine brkG h ?_ ?_<;>intro h
        ·cbv;refine .g h (fun _=>rfl) fun x13 h=>?_;cbv;refine brkG h ?_ ?_<;>intro h
         ·cbv;obtain rfl:=oj h;refine hKn3 _ _ _ rfl (.nz (.mtE [0,1] ?_));(cbv;repeat (refine⟨an_,?_⟩;cbv))
         ·cbv;refine .g h (fun _=>rfl) fun x14 h=>?_;cbv;refine brkG h ?_ ?_<;>intro h
          ·cbv;refine .g h (fun _=>rfl) fun x15 h=>?_;cbv;obtain rfl:=oj h;refine hKn3 _ _ _ rfl (.nz (.mtE [0,1] ?_));(cbv;repeat (refine⟨an_,?_⟩;cbv))
          ·cbv;obtain rfl:=oj h;refine hKn3 _ _ _ rfl (.nz (.mtE [0,1] ?_));(cbv;repeat (refine⟨an_,?_⟩;cbv))
        ·cbv;refine .g h (fun _=>rfl) fun x16 h=>?_;cbv;refine brkG h ?_ ?_<;>intro h
         ·cbv;refine .g h (fun _=>rfl) fun x17 h=>?_;cbv;obtain rfl:=oj h;refine hKn3 _ _ _ rfl (.nz (.mtE [0,1] ?_));(cbv;repeat (refine⟨an_,?_⟩;cbv))
         ·cbv;obtain rfl:=oj h;refine hKn3 _ _ _ rfl (.nz (.mtE [0,1] ?_));(cbv;repeat (refine⟨an_,?_⟩;cbv))
     obtain⟨v12,rfl⟩:=ez t;cbv;refine brkG h ?_ ?_<;>intro h
     ·cbv;obtain rfl:=oj h;obtain rfl:=hr2 _ rfl;obtain rfl:=hr1 _ rfl;exact hK _ _ aw_
     ·cbv;obtain rfl:=oj h;refine hKn2 _ _ _ rfl (.nz (.mtE [0,1] ?_));(cbv;repeat (refine⟨an_,?_⟩;cbv))
    ·cbv;obtain rfl:=oj h;obtain rfl:=hr2 _ rfl;refine hKn1 _ _ _ rfl (.nz (.mtE [] ?_));(cbv;repeat (refine⟨an_,?_⟩;cbv))
   cbv;obtain rfl:=oj h;exact hK _ _ aw_
end Go.SX.Td
