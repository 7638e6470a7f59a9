/- Parts of the proof. -/
import Derived.Test.YtllbabjgpdmblaaDoorZTdT
import Derived.Test.YtllbabjgpdmblaaDoorZTd32d
import Derived.Test.YtllbabjgpdmblaaDoorZTdSbuildd
set_option linter.unusedSimpArgs false
set_option linter.unusedVariables false
set_option linter.unusedSectionVars false
namespace Go.SX.Td
open Go Go.SX Go.Proofs
set_option maxRecDepth 100000
def c36r0 : List GOp:=[
 gv 4 (.mv (.const (.bool false)))]
def c36r1 : List GOp:=[
 gv 5 (.mv (.tmp 0)),
 gv 6 (.mv (.tmp 1)),
 gv 7 (.call 62 [(.tmp 5),(.tmp 6)]),
 gv 8 (.bin .geq (.tmp 7) (.const (.int .i64 0))),
 gv 4 (.mv (.tmp 8))]
def c36 : EFn:=⟨9,.seq (.reg c36r0) (.seq (.reg c36r1) (.ret)),[.tmp 4]⟩
theorem c36_ok : compF Tryd.prog 36=some c36.er:=by kernel_rfl
def c62r0 : List GOp:=[
 gv 4 (.mv (.const (.int .i64 0)))]
def c62r1 : List GOp:=[
 gv 6 (.mv (.tmp 0)),
 gv 7 (.len false (.tmp 6)),
 gv 8 (.mv (.const (.int .i64 0)))]
def c62r2 : List GOp:=[
 gv 9 (.bin .lss (.tmp 8) (.tmp 7))]
def c62r3 : List GOp:=[
 gv 10 (.mv (.tmp 8)),
 gv 5 (.mv (.tmp 10))]
def c62r4 : List GOp:=[
 gv 11 (.mv (.tmp 1)),
 gv 12 (.mv (.tmp 0)),
 gv 13 (.mv (.tmp 5)),
 gv 14 (.idxA 8 (.tmp 12) (.tmp 13)),
 gv 15 (.load 8 true (.tmp 14)),
 gv 16 (.callv (.tmp 11) [(.tmp 15)])]
def c62r5 : List GOp:=[
 gv 17 (.mv (.tmp 5)),
 gv 4 (.mv (.tmp 17))]
def c62r6 : List GOp:=[
 gv 18 (.bin .add (.tmp 8) (.const (.int .i64 1))),
 gv 8 (.mv (.tmp 18))]
def c62l7 : DE:=.seq (.reg c62r2) (.seq (.cond (.tmp 9) (.skip) (.exit 0)) (.seq (.block 1 (.seq (.reg c62r3) (.join (.reg c62r4) (.cond (.tmp 16) (.seq (.reg c62r5) (.ret)) (.skip))))) (.reg c62r6)))
def c62r8 : List GOp:=[
 gv 4 (.mv (.const (.int .i64 (-1))))]
def c62 : EFn:=⟨19,.seq (.reg c62r0) (.join (.seq (.reg c62r1) (.block 0 (.loop c62l7))) (.seq (.reg c62r8) (.ret))),[.tmp 4]⟩
theorem c62_ok : compF Tryd.prog 62=some c62.er:=by kernel_rfl
def c31r0 : List GOp:=[
 gv 2 (.box 36 (.tmp 0)),
 gv 3 (.mv (.const (.bool false)))]
def c31r1 : List GOp:=[
 gv 5 (.load 1 false (.tmp 1)),
 gv 6 (.fadd 1 (.tmp 2)),
 gv 7 (.load 1 false (.tmp 6)),
 gv 8 (.mget .str false false (.bool false) (.tmp 5) (.tmp 7)),
 gv 4 (.mv (.tmp 8))]
def c31r2 : List GOp:=[
 gv 9 (.load 1 false (.tmp 1)),
 gv 10 (.fadd 1 (.tmp 2)),
 gv 11 (.load 1 false (.tmp 10)),
 ⟨none,.mset .str false (.tmp 9) (.tmp 11) (.const (.bool true)),none⟩]
def c31r3 : List GOp:=[
 gv 12 (.mv (.tmp 4)),
 gv 13 (.mv (.tmp 12)),
 gw 14 13 false (.load 8 true (.tmp 2)),
 gw 15 13 false (.call 32 [(.tmp 14)]),
 gw 16 13 false (.un .not (.tmp 15)),
 gv 17 (.pick (.tmp 13) (.const (.bool true)) (.tmp 16)),
 gv 18 (.mv (.tmp 17)),
 gw 19 18 false (.fadd 2 (.tmp 2)),
 gw 20 18 false (.load 1 false (.tmp 19)),
 gw 21 18 false (.len false (.tmp 20)),
 gw 22 18 false (.bin .gtr (.tmp 21) (.const (.int .i64 200))),
 gv 23 (.pick (.tmp 18) (.const (.bool true)) (.tmp 22)),
 gv 24 (.mv (.tmp 23)),
 gw 25 24 false (.fadd 2 (.tmp 2)),
 gw 26 24 false (.load 1 false (.tmp 25)),
 gw 27 24 false (.call 33 [(.tmp 26),(.func 34)]),
 gv 28 (.pick (.tmp 24) (.const (.bool true)) (.tmp 27)),
 gv 3 (.mv (.tmp 28))]
def c31 : EFn:=⟨29,.seq (.reg c31r0) (.seq (.reg c31r1) (.seq (.reg c31r2) (.seq (.reg c31r3) (.ret)))),[.tmp 3]⟩
theorem c31_ok : compF Tryd.prog 31=some c31.er:=by kernel_rfl
def c33r0 : List GOp:=[
 gv 4 (.mv (.const (.bool false)))]
def c33r1 : List GOp:=[
 gv 5 (.mv (.tmp 0)),
 gv 6 (.mv (.tmp 1)),
 gv 7 (.call 61 [(.tmp 5),(.tmp 6)]),
 gv 8 (.bin .geq (.tmp 7) (.const (.int .i64 0))),
 gv 4 (.mv (.tmp 8))]
def c33 : EFn:=⟨9,.seq (.reg c33r0) (.seq (.reg c33r1) (.ret)),[.tmp 4]⟩
theorem c33_ok : compF Tryd.prog 33=some c33.er:=by kernel_rfl
def c61r0 : List GOp:=[
 gv 4 (.mv (.const (.int .i64 0)))]
def c61r1 : List GOp:=[
 gv 6 (.mv (.tmp 0)),
 gv 7 (.len false (.tmp 6)),
 gv 8 (.mv (.const (.int .i64 0)))]
def c61r2 : List GOp:=[
 gv 9 (.bin .lss (.tmp 8) (.tmp 7))]
def c61r3 : List GOp:=[
 gv 10 (.mv (.tmp 8)),
 gv 5 (.mv (.tmp 10))]
def c61r4 : List GOp:=[
 gv 11 (.mv (.tmp 1)),
 gv 12 (.mv (.tmp 0)),
 gv 13 (.mv (.tmp 5)),
 gv 14 (.idxA 20 (.tmp 12) (.tmp 13)),
 gv 15 (.load 20 true (.tmp 14)),
 gv 16 (.callv (.tmp 11) [(.tmp 15)])]
def c61r5 : List GOp:=[
 gv 17 (.mv (.tmp 5)),
 gv 4 (.mv (.tmp 17))]
def c61r6 : List GOp:=[
 gv 18 (.bin .add (.tmp 8) (.const (.int .i64 1))),
 gv 8 (.mv (.tmp 18))]
def c61l7 : DE:=.seq (.reg c61r2) (.seq (.cond (.tmp 9) (.skip) (.exit 0)) (.seq (.block 1 (.seq (.reg c61r3) (.join (.reg c61r4) (.cond (.tmp 16) (.seq (.reg c61r5) (.ret)) (.skip))))) (.reg c61r6)))
def c61r8 : List GOp:=[
 gv 4 (.mv (.const (.int .i64 (-1))))]
def c61 : EFn:=⟨19,.seq (.reg c61r0) (.join (.seq (.reg c61r1) (.block 0 (.loop c61l7))) (.seq (.reg c61r8) (.ret))),[.tmp 4]⟩
theorem c61_ok : compF Tryd.prog 61=some c61.er:=by kernel_rfl
def c34r0 : List GOp:=[
 gv 1 (.box 57 (.tmp 0)),
 gv 2 (.mv (.const (.bool false)))]
def c34r1 : List GOp:=[
 gv 3 (.load 20 true (.tmp 1)),
 gv 4 (.call 35 [(.tmp 3)]),
 gv 5 (.un .not (.tmp 4)),
 gv 2 (.mv (.tmp 5))]
def c34 : EFn:=⟨6,.seq (.reg c34r0) (.seq (.reg c34r1) (.ret)),[.tmp 2]⟩
theorem c34_ok : compF Tryd.prog 34=some c34.er:=by kernel_rfl
def c15r0 : List GOp:=[
 gv 1 (.box 24 (.tmp 0)),
 gv 2 (.mv (.const (.bool false)))]
def c15r1 : List GOp:=[
 gv 5 (.mkm .str false),
 gv 3 (.alloc 72 (.map none)),
 ⟨none,.store 1 (.tmp 3) (.tmp 5),none⟩]
def c15r2 : List GOp:=[
 gv 6 (.mkfn (.func 31) [] [(.tmp 3)]),
 gv 4 (.mv (.tmp 6))]
def c15r3 : List GOp:=[
 gv 7 (.fadd 0 (.tmp 1)),
 gv 8 (.load 1 false (.tmp 7)),
 gv 9 (.len false (.tmp 8)),
 gv 10 (.bin .leq (.tmp 9) (.const (.int .i64 200))),
 gv 11 (.mv (.tmp 10)),
 gw 12 11 true (.fadd 0 (.tmp 1)),
 gw 13 11 true (.load 1 false (.tmp 12)),
 gw 14 11 true (.mv (.tmp 4)),
 gw 15 11 true (.call 36 [(.tmp 13),(.tmp 14)]),
 gw 16 11 true (.un .not (.tmp 15)),
 gv 17 (.pick (.tmp 11) (.tmp 16) (.const (.bool false))),
 gv 2 (.mv (.tmp 17))]
def c15 : EFn:=⟨18,.seq (.reg c15r0) (.seq (.reg c15r1) (.seq (.reg c15r2) (.seq (.reg c15r3) (.ret)))),[.tmp 2]⟩
theorem c15_ok : compF Tryd.prog 15=some c15.er:=by kernel_rfl
set_option maxHeartbeats 4000000 in
theorem decide_Valid_R {P:Program}(hP:P=Tryd.prog)(p:Policy)(r:Bool)(h:decide_Valid_g p=some r):Fn1 P 15 [vPolicy p] (vB r):=by
 refine .walkE (hP▸c15_ok) fun K hK=>?_;unfold decide_Valid_g at h;cbv;refine brkG h ?_ ?_<;>intro h
 ·cbv;refine .inl (hP▸c36_ok) ?_;cbv;refine .inl (hP▸c62_ok) ?_;cbv;refine .ga h (fun (own1:(List (ByteArray×Bool)))=>rp 19 .top) (fun own1=>[.cells [.d (.sl (W eRule p.Rules))] 24,.mp .str false (WM Value.string eB own1),.cells [.hd 1] 72]) (fun y hm hr1 Kn1 hKn1=>?_) fun t h=>?_
  ·have h:=hm;clear hm;cbv;refine .g h (fun ((own2,v3):(List (ByteArray×Bool))×Int)=>[.d (.sl (W eRule p.Rules)),.clo (.func 31) [] [.ptr 2 0]]++rp 5 .top++[oi (io.len (W eRule p.Rules)),oi v3]++rp 10 .top) (fun (own2,v3)=>[.cells [.d (.sl (W eRule p.Rules))] 24,.mp .str false (WM Value.string eB own2),.cells [.hd 1] 72]) (.nz (.mtE [0,1,2] ?_)) fun s x h hr2 Kn2 hKn2=>?_
   ·(cbv;repeat (refine⟨an_,?_⟩;cbv))
   unfold decide_Valid_l22 at h;obtain⟨own2,v3⟩:=s;cbv;refine brkG h ?_ ?_<;>intro h
   ·cbv;refine .g h (fun ((own4,v5):(List (ByteArray×Bool))×Bool)=>[.d (.sl (W eRule p.Rules)),.clo (.func 31) [] [.ptr 2 0]]++rp 3 .top++[oi v3,.top,oi (io.len (W eRule p.Rules)),oi v3]++rp 7 .top++[ob v5,.top,.top]) (fun (own4,v5)=>[.cells [.d (.sl (W eRule p.Rules))] 24,.mp .str false (WM Value.string eB own4),.cells [.hd 1] 72]) (fun y hm Kn3 hKn3=>?_) fun t h=>?_
    ·have h:=hm;clear hm;cbv;refine .g h (fun _=>rfl) fun x6 h=>?_;cbv;refine .inl (hP▸c31_ok) ?_;cbv;refine .gs (e:=eB) h (by first | rfl | exact WM_nil' _ _) (fun h=>h) fun y7 h=>?_;cbv;refine .gs (e:=eB) h (by first | rfl | exact WM_nil' _ _) aw_ fun m8 h=>?_;cbv;refine brkG h ?_ ?_<;>intro h
     ·cbv;obtain rfl:=oj h;refine hKn3 _ _ _ rfl (.nz (.mtE [0,1,2] ?_));(cbv;repeat (refine⟨an_,?_⟩;cbv))
     ·cbv;refine .g h (fun v hv=>decide_numbers_R hP _ v hv) aw_ rfl (fun _=>rfl) fun v9 h=>?_;cbv;refine brkG h ?_ ?_<;>intro h
      ·cbv;obtain rfl:=oj h;refine hKn3 _ _ _ rfl (.nz (.mtE [0,1,2] ?_));(cbv;repeat (refine⟨an_,?_⟩;cbv))
      ·cbv;refine brkG h ?_ ?_<;>intro h
       ·cbv;obtain rfl:=oj h;refine hKn3 _ _ _ rfl (.nz (.mtE [0,1,2] ?_));(cbv;repeat (refine⟨an_,?_⟩;cbv))
       ·cbv;refine .inl (hP▸c33_ok) ?_;cbv;refine .inl (hP▸c61_ok) ?_;cbv;refine .ga h (fun (_:Unit)=>rp 19 .top) (fun _=>[.cells [.d (.sl (W eRule p.Rules))] 24,.mp .str false (WM Value.string eB m8),.cells [.hd 1] 72,.cells [oi x6.Kind,.d (.val (.string x6.Name)),.d (.sl (W eA10Range x6.Zones)),oi x6.N,oi x6.R.Num,oi x6.R.Den,oi x6.S.Num,oi x6.S.Den] 36]) (fun y hm hr4 Kn4 hKn4=>?_) fun t h=>?_
        ·have h:=hm;clear hm;cbv;refine .g h (fun (v10:Int)=>[.d (.sl (W eA10Range x6.Zones)),.clo (.func 34) [] []]++rp 5 .top++[oi (io.len (W eA10Range x6.Zones)),oi v10]++rp 10 .top) (fun v10=>[.cells [.d (.sl (W eRule p.Rules))] 24,.mp .str false (WM Value.string eB m8),.cells [.hd 1] 72,.cells [oi x6.Kind,.d (.val (.string x6.Name)),.d (.sl (W eA10Range x6.Zones)),oi x6.N,oi x6.R.Num,oi x6.R.Den,oi x6.S.Num,oi x6.S.Den] 36]) (.nz (.mtE [0,1,2,3] ?_)) fun s x h hr5 Kn5 hKn5=>?_
         ·(cbv;repeat (refine⟨an_,?_⟩;cbv))
         unfold decide_Valid_l26 at h;obtain⟨v10,rfl⟩:=ez s;cbv;refine brkG h ?_ ?_<;>intro h
         ·cbv;refine .g h (fun (v11:Bool)=>[.d (.sl (W eA10Range x6.Zones)),.clo (.func 34) [] []]++rp 3 .top++[oi v10,.top,oi (io.len (W eA10Range x6.Zones)),oi v10]++rp 7 .top++[ob v11,.top,.top]) (fun v11=>[.cells [.d (.sl (W eRule p.Rules))] 24,.mp .str false (WM Value.string eB m8),.cells [.hd 1] 72,.cells [oi x6.Kind,.d (.val (.string x6.Name)),.d (.sl (W eA10Range x6.Zones)),oi x6.N,oi x6.R.Num,oi x6.R.Den,oi x6.S.Num,oi x6.S.Den] 36]) (fun y hm Kn6 hKn6=>?_) fun t h=>?_
          ·have h:=hm;clear hm;cbv;refine .g h (fun _=>rfl) fun x12 h=>?_;cbv;refine .inl (hP▸c34_ok) ?_;cbv;refine .g h (fun v hv=>decide_within_R hP _ v hv) aw_ rfl (fun _=>rfl) fun v13 h=>?_;cbv;obtain rfl:=oj h;refine hKn6 _ _ _ rfl (.nz (.mtE [0,1,2,3] ?_));(cbv;repeat (refine⟨an_,?_⟩;cbv))
          obtain⟨v11,rfl⟩:=ez t;cbv;refine brkG h ?_ ?_<;>intro h
          ·cbv;obtain rfl:=oj h;obtain rfl:=hr5 _ rfl;obtain rfl:=hr4 _ rfl;refine hKn3 _ _ _ rfl (.nz (.mtE [0,1,2] ?_));(cbv;repeat (refine⟨an_,?_⟩;cbv))
          ·cbv;obtain rfl:=oj h;refine hKn5 _ _ _ rfl (.nz (.mtE [0,1,2,3] ?_));(cbv;repeat (refine⟨an_,?_⟩;cbv))
         ·cbv;obtain rfl:=oj h;obtain rfl:=hr5 _ rfl;refine hKn4 _ _ _ rfl (.nz (.mtE [0,1,2,3] ?_));(cbv;repeat (refine⟨an_,?_⟩;cbv))
        cbv;obtain rfl:=oj h;refine hKn3 _ _ _ rfl (.nz (.mtE [0,1,2] ?_));(cbv;repeat (refine⟨an_,?_⟩;cbv))
    obtain⟨own4,v5⟩:=t;cbv;refine brkG h ?_ ?_<;>intro h
    ·cbv;obtain rfl:=oj h;obtain rfl:=hr2 _ rfl;obtain rfl:=hr1 _ rfl;exact hK _ _ aw_
    ·cbv;obtain rfl:=oj h;refine hKn2 _ _ _ rfl (.nz (.mtE [0,1,2] ?_));(cbv;repeat (refine⟨an_,?_⟩;cbv))
   ·cbv;obtain rfl:=oj h;obtain rfl:=hr2 _ rfl;refine hKn1 _ _ _ rfl (.nz (.mtE [0,1,2] ?_));(cbv;repeat (refine⟨an_,?_⟩;cbv))
  obtain⟨own1,rfl⟩:=ez t;cbv;obtain rfl:=oj h;exact hK _ _ aw_
 ·cbv;obtain rfl:=oj h;exact hK _ _ aw_
end Go.SX.Td
namespace Go.SX.Td
open Go Go.SX Go.Proofs
set_option maxRecDepth 100000
def c39r0 : List GOp:=[
 gv 2 (.box 28 (.tmp 0)),
 gv 3 (.box 64 (.tmp 1)),
 gv 4 (.mv (.const (.bool false)))]
def c39r1 : List GOp:=[
 gv 10 (.fadd 2 (.tmp 3)),
 gv 11 (.load 1 false (.tmp 10)),
 gv 12 (.len false (.tmp 11)),
 gv 13 (.bin .eql (.tmp 12) (.const (.int .i64 0)))]
def c39r2 : List GOp:=[
 gv 14 (.fadd 1 (.tmp 3)),
 gv 15 (.load 1 false (.tmp 14)),
 gv 16 (.len false (.tmp 15)),
 gv 17 (.bin .eql (.tmp 16) (.const (.int .i64 0))),
 gv 18 (.mv (.tmp 17)),
 gw 19 18 true (.fadd 0 (.tmp 3)),
 gw 20 18 true (.load 1 false (.tmp 19)),
 gw 21 18 true (.bin .eql (.tmp 20) (.const (.int .i64 0))),
 gv 22 (.pick (.tmp 18) (.tmp 21) (.const (.bool false))),
 gv 23 (.mv (.tmp 22)),
 gw 24 23 true (.fadd 3 (.tmp 3)),
 gw 25 23 true (.load 1 false (.tmp 24)),
 gw 26 23 true (.bin .geq (.tmp 25) (.const (.int .i64 0))),
 gv 27 (.pick (.tmp 23) (.tmp 26) (.const (.bool false))),
 gv 28 (.mv (.tmp 27)),
 gw 29 28 true (.fadd 3 (.tmp 3)),
 gw 30 28 true (.load 1 false (.tmp 29)),
 gw 31 28 true (.fadd 1 (.tmp 2)),
 gw 32 28 true (.load 1 false (.tmp 31)),
 gw 33 28 true (.len false (.tmp 32)),
 gw 34 28 true (.bin .lss (.tmp 30) (.tmp 33)),
 gv 35 (.pick (.tmp 28) (.tmp 34) (.const (.bool false))),
 gv 4 (.mv (.tmp 35))]
def c39r3 : List GOp:=[
 gv 36 (.fadd 0 (.tmp 3)),
 gv 37 (.load 1 false (.tmp 36)),
 gv 38 (.bin .lss (.tmp 37) (.const (.int .i64 0))),
 gv 39 (.mv (.tmp 38)),
 gw 40 39 false (.fadd 0 (.tmp 3)),
 gw 41 39 false (.load 1 false (.tmp 40)),
 gw 42 39 false (.bin .geq (.tmp 41) (.const (.int .i64 10))),
 gv 43 (.pick (.tmp 39) (.const (.bool true)) (.tmp 42)),
 gv 44 (.mv (.tmp 43)),
 gw 45 44 false (.fadd 3 (.tmp 3)),
 gw 46 44 false (.load 1 false (.tmp 45)),
 gw 47 44 false (.bin .neq (.tmp 46) (.const (.int .i64 0))),
 gv 48 (.pick (.tmp 44) (.const (.bool true)) (.tmp 47)),
 gv 49 (.mv (.tmp 48)),
 gw 50 49 false (.fadd 1 (.tmp 3)),
 gw 51 49 false (.load 1 false (.tmp 50)),
 gw 52 49 false (.len false (.tmp 51)),
 gw 53 49 false (.bin .eql (.tmp 52) (.const (.int .i64 0))),
 gv 54 (.pick (.tmp 49) (.const (.bool true)) (.tmp 53)),
 gv 55 (.mv (.tmp 54)),
 gw 56 55 false (.fadd 2 (.tmp 3)),
 gw 57 55 false (.load 1 false (.tmp 56)),
 gw 58 55 false (.len false (.tmp 57)),
 gw 59 55 false (.fadd 1 (.tmp 3)),
 gw 60 55 false (.load 1 false (.tmp 59)),
 gw 61 55 false (.len false (.tmp 60)),
 gw 62 55 false (.bin .add (.tmp 61) (.const (.int .i64 1))),
 gw 63 55 false (.bin .neq (.tmp 58) (.tmp 62)),
 gv 64 (.pick (.tmp 55) (.const (.bool true)) (.tmp 63))]
def c39r4 : List GOp:=[
 gv 4 (.mv (.const (.bool false)))]
def c39r5 : List GOp:=[
 gv 65 (.call 26 []),
 gv 66 (.fadd 0 (.tmp 3)),
 gv 67 (.load 1 false (.tmp 66)),
 gv 68 (.idxV 10 2 true (.tmp 65) (.tmp 67)),
 gv 5 (.alloc 55 (.agg #[oz,oz])),
 ⟨none,.store 2 (.tmp 5) (.tmp 68),none⟩]
def c39r6 : List GOp:=[
 gv 69 (.fadd 1 (.tmp 3)),
 gv 70 (.load 1 false (.tmp 69)),
 gv 71 (.len false (.tmp 70)),
 gv 72 (.mv (.const (.int .i64 0)))]
def c39r7 : List GOp:=[
 gv 73 (.bin .lss (.tmp 72) (.tmp 71))]
def c39r8 : List GOp:=[
 gv 74 (.idxA 1 (.tmp 70) (.tmp 72)),
 gv 75 (.load 1 false (.tmp 74)),
 gv 7 (.mv (.tmp 75))]
def c39r9 : List GOp:=[
 gv 76 (.mv (.tmp 7)),
 gv 77 (.fadd 0 (.tmp 5)),
 gv 78 (.load 1 false (.tmp 77)),
 gv 79 (.bin .leq (.tmp 76) (.tmp 78)),
 gv 80 (.mv (.tmp 79)),
 gw 81 80 false (.mv (.tmp 7)),
 gw 82 80 false (.fadd 1 (.tmp 5)),
 gw 83 80 false (.load 1 false (.tmp 82)),
 gw 84 80 false (.bin .gtr (.tmp 81) (.tmp 83)),
 gv 85 (.pick (.tmp 80) (.const (.bool true)) (.tmp 84))]
def c39r10 : List GOp:=[
 gv 4 (.mv (.const (.bool false)))]
def c39r11 : List GOp:=[
 gv 86 (.mv (.tmp 7)),
 gv 87 (.fadd 0 (.tmp 5)),
 ⟨none,.store 1 (.tmp 87) (.tmp 86),none⟩]
def c39r12 : List GOp:=[
 gv 88 (.bin .add (.tmp 72) (.const (.int .i64 1))),
 gv 72 (.mv (.tmp 88))]
def c39l13 : DE:=.seq (.reg c39r7) (.seq (.cond (.tmp 73) (.skip) (.exit 0)) (.seq (.block 1 (.seq (.reg c39r8) (.seq (.join (.reg c39r9) (.cond (.tmp 85) (.seq (.reg c39r10) (.ret)) (.skip))) (.reg c39r11)))) (.reg c39r12)))
def c39r14 : List GOp:=[
 gv 89 (.fadd 2 (.tmp 3)),
 gv 90 (.load 1 false (.tmp 89)),
 gv 91 (.len false (.tmp 90)),
 gv 92 (.mv (.const (.int .i64 0)))]
def c39r15 : List GOp:=[
 gv 93 (.bin .lss (.tmp 92) (.tmp 91))]
def c39r16 : List GOp:=[
 gv 94 (.mv (.tmp 92)),
 gv 95 (.idxA 1 (.tmp 90) (.tmp 92)),
 gv 96 (.load 1 false (.tmp 95)),
 gv 8 (.mv (.tmp 94)),
 gv 9 (.mv (.tmp 96))]
def c39r17 : List GOp:=[
 gv 97 (.mv (.tmp 9)),
 gv 98 (.bin .lss (.tmp 97) (.const (.int .i64 0))),
 gv 99 (.mv (.tmp 98)),
 gw 100 99 false (.mv (.tmp 9)),
 gw 101 99 false (.fadd 0 (.tmp 2)),
 gw 102 99 false (.load 1 false (.tmp 101)),
 gw 103 99 false (.len false (.tmp 102)),
 gw 104 99 false (.bin .geq (.tmp 100) (.tmp 103)),
 gv 105 (.pick (.tmp 99) (.const (.bool true)) (.tmp 104)),
 gv 106 (.mv (.tmp 105)),
 gw 107 106 false (.mv (.tmp 8)),
 gw 108 106 false (.bin .gtr (.tmp 107) (.const (.int .i64 0))),
 gw 109 106 false (.mv (.tmp 108)),
 gw 110 109 true (.fadd 2 (.tmp 3)),
 gw 111 109 true (.load 1 false (.tmp 110)),
 gw 112 109 true (.mv (.tmp 8)),
 gw 113 109 true (.bin .sub (.tmp 112) (.const (.int .i64 1))),
 gw 114 109 true (.idxA 1 (.tmp 111) (.tmp 113)),
 gw 115 109 true (.load 1 false (.tmp 114)),
 gw 116 109 true (.mv (.tmp 9)),
 gw 117 109 true (.bin .eql (.tmp 115) (.tmp 116)),
 gw 118 106 false (.pick (.tmp 109) (.tmp 117) (.const (.bool false))),
 gv 119 (.pick (.tmp 106) (.const (.bool true)) (.tmp 118)),
 gv 120 (.mv (.tmp 119)),
 gw 121 120 false (.fadd 0 (.tmp 2)),
 gw 122 120 false (.load 1 false (.tmp 121)),
 gw 123 120 false (.mv (.tmp 9)),
 gw 124 120 false (.idxA 4 (.tmp 122) (.tmp 123)),
 gw 125 120 false (.fadd 2 (.tmp 124)),
 gw 126 120 false (.load 1 false (.tmp 125)),
 gw 127 120 false (.len false (.tmp 126)),
 gw 128 120 false (.bin .gtr (.tmp 127) (.const (.int .i64 0))),
 gw 129 120 false (.mv (.tmp 128)),
 gw 130 129 true (.fadd 0 (.tmp 2)),
 gw 131 129 true (.load 1 false (.tmp 130)),
 gw 132 129 true (.mv (.tmp 9)),
 gw 133 129 true (.idxA 4 (.tmp 131) (.tmp 132)),
 gw 134 129 true (.fadd 0 (.tmp 133)),
 gw 135 129 true (.load 1 false (.tmp 134)),
 gw 136 129 true (.fadd 0 (.tmp 3)),
 gw 137 129 true (.load 1 false (.tmp 136)),
 gw 138 129 true (.bin .leq (.tmp 135) (.tmp 137)),
 gw 139 120 false (.pick (.tmp 129) (.tmp 138) (.const (.bool false))),
 gv 140 (.pick (.tmp 120) (.const (.bool true)) (.tmp 139))]
def c39r18 : List GOp:=[
 gv 4 (.mv (.const (.bool false)))]
def c39r19 : List GOp:=[
 gv 141 (.bin .add (.tmp 92) (.const (.int .i64 1))),
 gv 92 (.mv (.tmp 141))]
def c39l20 : DE:=.seq (.reg c39r15) (.seq (.cond (.tmp 93) (.skip) (.exit 2)) (.seq (.block 3 (.seq (.reg c39r16) (.join (.par true true true 41 c39r17) (.cond (.tmp 140) (.seq (.reg c39r18) (.ret)) (.skip))))) (.reg c39r19)))
def c39r21 : List GOp:=[
 gv 4 (.mv (.const (.bool true)))]
def c39 : EFn:=⟨142,.seq (.reg c39r0) (.seq (.seq (.reg c39r1) (.cond (.tmp 13) (.seq (.reg c39r2) (.ret)) (.skip))) (.seq (.join (.reg c39r3) (.cond (.tmp 64) (.seq (.reg c39r4) (.ret)) (.skip))) (.join (.par false false false 5 c39r5) (.join (.seq (.reg c39r6) (.block 0 (.loop c39l13))) (.join (.seq (.reg c39r14) (.block 2 (.loop c39l20))) (.seq (.reg c39r21) (.ret))))))),[.tmp 4]⟩
theorem c39_ok : compF Tryd.prog 39=some c39.er:=by kernel_rfl
set_option maxHeartbeats 4000000 in
theorem table_formed_R {P:Program}(hP:P=Tryd.prog)(t_:Table)(n:Node)(r:Bool)(h:table_formed_g t_ n=some r):Fn1 P 39 [vTable t_,vNode n] (vB r):=by
 refine .walkE (hP▸c39_ok) fun K hK=>?_;unfold table_formed_g at h;cbv;refine brkG h ?_ ?_<;>intro h
 ·cbv;refine brkG h ?_ ?_<;>intro h
  ·cbv;refine brkG h ?_ ?_<;>intro h
   ·cbv;refine brkG h ?_ ?_<;>intro h
    ·cbv;obtain rfl:=oj h;exact hK _ _ aw_
    ·cbv;obtain rfl:=oj h;exact hK _ _ aw_
   ·cbv;obtain rfl:=oj h;exact hK _ _ aw_
  ·cbv;obtain rfl:=oj h;exact hK _ _ aw_
 ·cbv;refine .g h (fun (v1:Bool)=>[.top,.top,.ptr 0 0,.ptr 1 0]++rp 60 .top++[ob v1]++rp 77 .top) (fun v1=>[.cells [.d (.sl (W eNode t_.Nodes)),.d (.sl (W eDecision t_.Leaves))] 28,.cells [oi n.Attr,.d (.sl (W eIi64 n.Cuts)),.d (.sl (W eIi64 n.Kids)),oi n.Leaf] 64]) (fun y hm Kn1 hKn1=>?_) fun t h=>?_
  ·have h:=hm;clear hm;cbv;refine brkG h ?_ ?_<;>intro h
   ·cbv;obtain rfl:=oj h;refine hKn1 _ _ _ rfl (.nz (.mtE [0,1] ?_));(cbv;repeat (refine⟨an_,?_⟩;cbv))
   ·cbv;refine brkG h ?_ ?_<;>intro h
    ·cbv;obtain rfl:=oj h;refine hKn1 _ _ _ rfl (.nz (.mtE [0,1] ?_));(cbv;repeat (refine⟨an_,?_⟩;cbv))
    ·cbv;refine brkG h ?_ ?_<;>intro h
     ·cbv;obtain rfl:=oj h;refine hKn1 _ _ _ rfl (.nz (.mtE [0,1] ?_));(cbv;repeat (refine⟨an_,?_⟩;cbv))
     ·cbv;refine brkG h ?_ ?_<;>intro h
      ·cbv;obtain rfl:=oj h;refine hKn1 _ _ _ rfl (.nz (.mtE [0,1] ?_));(cbv;repeat (refine⟨an_,?_⟩;cbv))
      ·cbv;obtain rfl:=oj h;refine hKn1 _ _ _ rfl (.nz (.mtE [0,1] ?_));(cbv;repeat (refine⟨an_,?_⟩;cbv))
  obtain⟨v1,rfl⟩:=ez t;cbv;refine brkG h ?_ ?_<;>intro h
  ·cbv;obtain rfl:=oj h;exact hK _ _ aw_
  ·cbv;refine .g h (fun ((Lo2,Hi3):Int×Int)=>[.top,.top,.ptr 0 0,.ptr 1 0,.top,.ptr 2 0]++rp 136 .top) (fun (Lo2,Hi3)=>[.cells [.d (.sl (W eNode t_.Nodes)),.d (.sl (W eDecision t_.Leaves))] 28,.cells [oi n.Attr,.d (.sl (W eIi64 n.Cuts)),.d (.sl (W eIi64 n.Kids)),oi n.Leaf] 64,.cells [oi Lo2,oi Hi3] 55]) (fun y hm Kn1 hKn1=>?_) fun t h=>?_
   ·have h:=hm;clear hm;cbv;refine .g h (fun v hv=>resolve_Limits_R hP v hv) aw_ rfl (fun _=>rfl) fun v4 h=>?_;cbv
    refine .c10 h ?_ ?_ ?_ ?_ ?_ ?_ ?_ ?_ ?_ ?_<;>(
     intro hni5 h;cbv;obtain rfl:=oj h;refine hKn1 _ _ _ rfl (.nz (.mtE [0,1,2] ?_));(cbv;repeat (refine⟨an_,?_⟩;cbv))
     )
   obtain⟨Lo2,Hi3⟩:=t;cbv;refine .ga h (fun (_:Unit)=>[.top,.top,.ptr 0 0,.ptr 1 0]++rp 138 .top) (fun _=>[.cells [.d (.sl (W eNode t_.Nodes)),.d (.sl (W eDecision t_.Leaves))] 28,.cells [oi n.Attr,.d (.sl (W eIi64 n.Cuts)),.d (.sl (W eIi64 n.Kids)),oi n.Leaf] 64]) (fun y hm hr1 Kn1 hKn1=>?_) fun t h=>?_
   ·have h:=hm;clear hm;cbv;refine .g h (fun ((Lo6,v7):Int×Int)=>[.top,.top,.ptr 0 0,.ptr 1 0,.top,.ptr 2 0]++rp 64 .top++[.d (.sl (W eIi64 n.Cuts)),oi (io.len (W eIi64 n.Cuts)),oi v7]++rp 69 .top) (fun (Lo6,v7)=>[.cells [.d (.sl (W eNode t_.Nodes)),.d (.sl (W eDecision t_.Leaves))] 28,.cells [oi n.Attr,.d (.sl (W eIi64 n.Cuts)),.d (.sl (W eIi64 n.Kids)),oi n.Leaf] 64,.cells [oi Lo6,oi Hi3] 55]) (.nz (.mtE [0,1,2] ?_)) fun s x h hr2 Kn2 hKn2=>?_
    ·(cbv;repeat (refine⟨an_,?_⟩;cbv))
    unfold table_formed_l2 at h;obtain⟨Lo6,v7⟩:=s;cbv;refine brkG h ?_ ?_<;>intro h
    ·cbv;refine .g h (fun _=>rfl) fun x8 h=>?_;cbv;refine .g h (fun (v9:Bool)=>[.top,.top,.ptr 0 0,.ptr 1 0,.top,.ptr 2 0,.top,oi x8]++rp 62 .top++[.d (.sl (W eIi64 n.Cuts)),oi (io.len (W eIi64 n.Cuts)),oi v7]++rp 12 .top++[ob v9]++rp 56 .top) (fun v9=>[.cells [.d (.sl (W eNode t_.Nodes)),.d (.sl (W eDecision t_.Leaves))] 28,.cells [oi n.Attr,.d (.sl (W eIi64 n.Cuts)),.d (.sl (W eIi64 n.Kids)),oi n.Leaf] 64,.cells [oi Lo6,oi Hi3] 55]) (fun y hm Kn3 hKn3=>?_) fun t h=>?_
     ·have h:=hm;clear hm;cbv;refine brkG h ?_ ?_<;>intro h
      ·cbv;obtain rfl:=oj h;refine hKn3 _ _ _ rfl (.nz (.mtE [0,1,2] ?_));(cbv;repeat (refine⟨an_,?_⟩;cbv))
      ·cbv;obtain rfl:=oj h;refine hKn3 _ _ _ rfl (.nz (.mtE [0,1,2] ?_));(cbv;repeat (refine⟨an_,?_⟩;cbv))
     obtain⟨v9,rfl⟩:=ez t;cbv;refine brkG h ?_ ?_<;>intro h
     ·cbv;obtain rfl:=oj h;obtain rfl:=hr2 _ rfl;obtain rfl:=hr1 _ rfl;exact hK _ _ aw_
     ·cbv;obtain rfl:=oj h;refine hKn2 _ _ _ rfl (.nz (.mtE [0,1,2] ?_));(cbv;repeat (refine⟨an_,?_⟩;cbv))
    ·cbv;obtain rfl:=oj h;obtain rfl:=hr2 _ rfl;refine hKn1 _ _ _ rfl (.nz (.mtE [0,1] ?_));(cbv;repeat (refine⟨an_,?_⟩;cbv))
   cbv;refine .ga h (fun (_:Unit)=>rp 142 .top) (fun _=>[]) (fun y hm hr1 Kn1 hKn1=>?_) fun t h=>?_
   ·have h:=hm;clear hm;cbv;refine .g h (fun (v10:Int)=>[.top,.top,.ptr 0 0,.ptr 1 0]++rp 86 .top++[.d (.sl (W eIi64 n.Kids)),oi (io.len (W eIi64 n.Kids)),oi v10]++rp 49 .top) (fun v10=>[.cells [.d (.sl (W eNode t_.Nodes)),.d (.sl (W eDecision t_.Leaves))] 28,.cells [oi n.Attr,.d (.sl (W eIi64 n.Cuts)),.d (.sl (W eIi64 n.Kids)),oi n.Leaf] 64]) (.nz (.mtE [0,1] ?_)) fun s x h hr2 Kn2 hKn2=>?_
    ·(cbv;repeat (refine⟨an_,?_⟩;cbv))
    unfold table_formed_l4 at h;obtain⟨v10,rfl⟩:=ez s;cbv;refine brkG h ?_ ?_<;>intro h
    ·cbv;refine .g h (fun _=>rfl) fun x11 h=>?_;cbv;refine .g h (fun (v12:Bool)=>[.top,.top,.ptr 0 0,.ptr 1 0]++rp 86 .top++[.d (.sl (W eIi64 n.Kids)),oi (io.len (W eIi64 n.Kids)),oi v10]++rp 47 .top++[ob v12,.top]) (fun v12=>[.cells [.d (.sl (W eNode t_.Nodes)),.d (.sl (W eDecision t_.Leaves))] 28,.cells [oi n.Attr,.d (.sl (W eIi64 n.Cuts)),.d (.sl (W eIi64 n.Kids)),oi n.Leaf] 64]) (fun y hm Kn3 hKn3=>?_) fun t h=>?_
     ·have h:=hm;clear hm;cbv;refine brkG h ?_ ?_<;>intro h
      ·cbv;obtain rfl:=oj h;refine hKn3 _ _ _ rfl (.nz (.mtE [0,1] ?_));(cbv;repeat (refine⟨an_,?_⟩;cbv))
      ·cbv;refine brkG h ?_ ?_<;>intro h
       ·cbv;obtain rfl:=oj h;refine hKn3 _ _ _ rfl (.nz (.mtE [0,1] ?_));(cbv;repeat (refine⟨an_,?_⟩;cbv))
       ·cbv;refine brkG h ?_ ?_<;>intro h
        ·cbv;refine .g h (fun _=>rfl) fun x13 h=>?_;cbv;refine brkG h ?_ ?_<;>intro h
         ·cbv;obtain rfl:=oj h;refine hKn3 _ _ _ rfl (.nz (.mtE [0,1] ?_));(cbv;repeat (refine⟨an_,?_⟩;cbv))
         ·cbv;refine .g h (fun _=>rfl) fun x14 h=>?_;cbv;refine brkG h ?_ ?_<;>intro h
          ·cbv;refine .g h (fun _=>rfl) fun x15 h=>?_;cbv;obtain rfl:=oj h;refine hKn3 _ _ _ rfl (.nz (.mtE [0,1] ?_));(cbv;repeat (refine⟨an_,?_⟩;cbv))
          ·cbv;obtain rfl:=oj h;refine hKn3 _ _ _ rfl (.nz (.mtE [0,1] ?_));(cbv;repeat (refine⟨an_,?_⟩;cbv))
        ·cbv;refine .g h (fun _=>rfl) fun x16 h=>?_;cbv;refine brkG h ?_ ?_<;>intro h
         ·cbv;refine .g h (fun _=>rfl) fun x17 h=>?_;cbv;obtain rfl:=oj h;refine hKn3 _ _ _ rfl (.nz (.mtE [0,1] ?_));(cbv;repeat (refine⟨an_,?_⟩;cbv))
         ·cbv;obtain rfl:=oj h;refine hKn3 _ _ _ rfl (.nz (.mtE [0,1] ?_));(cbv;repeat (refine⟨an_,?_⟩;cbv))
     obtain⟨v12,rfl⟩:=ez t;cbv;refine brkG h ?_ ?_<;>intro h
     ·cbv;obtain rfl:=oj h;obtain rfl:=hr2 _ rfl;obtain rfl:=hr1 _ rfl;exact hK _ _ aw_
     ·cbv;obtain rfl:=oj h;refine hKn2 _ _ _ rfl (.nz (.mtE [0,1] ?_));(cbv;repeat (refine⟨an_,?_⟩;cbv))
    ·cbv;obtain rfl:=oj h;obtain rfl:=hr2 _ rfl;refine hKn1 _ _ _ rfl (.nz (.mtE [] ?_));(cbv;repeat (refine⟨an_,?_⟩;cbv))
   cbv;obtain rfl:=oj h;exact hK _ _ aw_
end Go.SX.Td
namespace Go.SX.Td
open Go Go.SX Go.Proofs
set_option maxRecDepth 100000
def c41r0 : List GOp:=[
 ⟨(some 3),.mv (.tmp 0),none⟩,
 ⟨(some 4),.load 1 false (.tmp 1),none⟩,
 ⟨(some 5),.bin .eql (.tmp 3) (.tmp 4),none⟩]
def c41r1 : List GOp:=[
 ⟨(some 6),.load 1 false (.tmp 1),none⟩,
 ⟨(some 7),.bin .add (.tmp 6) (.const (.int .i64 1)),none⟩,
 ⟨none,.store 1 (.tmp 1) (.tmp 7),none⟩]
def c41 : EFn:=⟨8,.seq (.reg c41r0) (.cond (.tmp 5) (.reg c41r1) (.skip)),[]⟩
theorem c41_ok : compF Tryd.prog 41=some c41.er:=by kernel_rfl
def c71r0 : List GOp:=[
 ⟨(some 8),.load 1 false (.tmp 1),none⟩,
 ⟨(some 9),.mv (.tmp 0),none⟩,
 ⟨(some 10),.mget (.int .i64) false false (.bool false) (.tmp 8) (.tmp 9),none⟩]
def c71r1 : List GOp:=[
 ⟨(some 11),.load 1 false (.tmp 1),none⟩,
 ⟨(some 12),.mv (.tmp 0),none⟩,
 ⟨none,.mset (.int .i64) false (.tmp 11) (.tmp 12) (.const (.bool true)),none⟩]
def c71r2 : List GOp:=[
 ⟨(some 13),.load 1 false (.tmp 2),none⟩,
 ⟨(some 14),.mv (.tmp 0),none⟩,
 ⟨(some 15),.callv (.tmp 13) [(.tmp 14)],none⟩]
def c71r3 : List GOp:=[
 ⟨(some 16),.load 1 false (.tmp 3),none⟩,
 ⟨(some 17),.mv (.tmp 0),none⟩,
 ⟨(some 18),.idxA 4 (.tmp 16) (.tmp 17),none⟩,
 ⟨(some 19),.fadd 2 (.tmp 18),none⟩,
 ⟨(some 20),.load 1 false (.tmp 19),none⟩,
 ⟨(some 21),.len false (.tmp 20),none⟩,
 ⟨(some 22),.mv (.const (.int .i64 0)),none⟩]
def c71r4 : List GOp:=[
 ⟨(some 23),.bin .lss (.tmp 22) (.tmp 21),none⟩]
def c71r5 : List GOp:=[
 ⟨(some 24),.idxA 1 (.tmp 20) (.tmp 22),none⟩,
 ⟨(some 25),.load 1 false (.tmp 24),none⟩,
 ⟨(some 7),.mv (.tmp 25),none⟩]
def c71r6 : List GOp:=[
 ⟨(some 26),.load 1 false (.tmp 4),none⟩,
 ⟨(some 27),.mv (.tmp 7),none⟩,
 ⟨(some 28),.callv (.tmp 26) [(.tmp 27)],none⟩]
def c71r7 : List GOp:=[
 ⟨(some 29),.bin .add (.tmp 22) (.const (.int .i64 1)),none⟩,
 ⟨(some 22),.mv (.tmp 29),none⟩]
def c71l8 : DE:=.seq (.reg c71r4) (.seq (.cond (.tmp 23) (.skip) (.exit 0)) (.join (.block 1 (.seq (.reg c71r5) (.reg c71r6))) (.reg c71r7)))
def c71 : EFn:=⟨30,.seq (.seq (.reg c71r0) (.cond (.tmp 10) (.ret) (.skip))) (.seq (.reg c71r1) (.join (.reg c71r2) (.seq (.reg c71r3) (.block 0 (.loop c71l8))))),[]⟩
theorem c71_ok : compF Tryd.prog 71=some c71.er:=by kernel_rfl
set_option maxHeartbeats 8000000 in
theorem walkV_R {P:Program}(hP:P=Tryd.prog)(nodes:(List Node))(rec:(Int→(List (Int×Bool))→Int→Option ((List (Int×Bool))×Int)))(at0:Int)(seen:(List (Int×Bool)))(nxt:Int)(hrec:∀ at0 seen nxt r,rec at0 seen nxt=some r→SCall P 71 [.cells [.hd 1] 130,.mp (.int .i64) false (WM (Value.int .i64) eB seen),.cells [.clo (.func 41) [] [.ptr 3 0]] 88,.cells [.d (.val (.int .i64 nxt))] 3,.cells [.d (.sl (W eNode nodes))] 25,.cells [.clo (.func 71) [] [.ptr 0 0,.ptr 2 0,.ptr 4 0,.ptr 5 0]] 88] [.d (.val (.int .i64 at0)),.ptr 0 0,.ptr 2 0,.ptr 4 0,.ptr 5 0] (fun sv own'=>sv=.tup []∧own'=[.cells [.hd 1] 130,.mp (.int .i64) false (WM (Value.int .i64) eB r.1),.cells [.clo (.func 41) [] [.ptr 3 0]] 88,.cells [.d (.val (.int .i64 r.2))] 3,.cells [.d (.sl (W eNode nodes))] 25,.cells [.clo (.func 71) [] [.ptr 0 0,.ptr 2 0,.ptr 4 0,.ptr 5 0]] 88]))(r:(List (Int×Bool))×Int)(h:walkV_b nodes rec at0 seen nxt=some r):SCall P 71 [.cells [.hd 1] 130,.mp (.int .i64) false (WM (Value.int .i64) eB seen),.cells [.clo (.func 41) [] [.ptr 3 0]] 88,.cells [.d (.val (.int .i64 nxt))] 3,.cells [.d (.sl (W eNode nodes))] 25,.cells [.clo (.func 71) [] [.ptr 0 0,.ptr 2 0,.ptr 4 0,.ptr 5 0]] 88] [.d (.val (.int .i64 at0)),.ptr 0 0,.ptr 2 0,.ptr 4 0,.ptr 5 0] (fun sv own'=>sv=.tup []∧own'=[.cells [.hd 1] 130,.mp (.int .i64) false (WM (Value.int .i64) eB r.1),.cells [.clo (.func 41) [] [.ptr 3 0]] 88,.cells [.d (.val (.int .i64 r.2))] 3,.cells [.d (.sl (W eNode nodes))] 25,.cells [.clo (.func 71) [] [.ptr 0 0,.ptr 2 0,.ptr 4 0,.ptr 5 0]] 88]):=by
 refine .walkG 6 rfl (Nat.le_of_ble_eq_true rfl) (hP▸c71_ok) fun K hK=>?_;unfold walkV_b at h;cbv;refine .gi (e:=eB) h (by first | rfl | exact WM_nil' _ _) (fun h=>h) fun y1 h=>?_;cbv;refine brkG h (fun h=>?_) (fun h=>?_)
 ·cbv;obtain rfl:=Option.some.inj h;refine hK _ _ [0,1,2,3,4,5] ?_;(cbv;repeat (refine⟨by first | rfl | exact W_nil _ | simp only[W_nilx] | simp only[WM_nilx],?_⟩;cbv))
 ·cbv;refine .gi (e:=eB) h (by first | rfl | exact WM_nil' _ _) (by first | rfl | exact W_nil _ | (cbv;simp only[W_nilx])) fun m2 h=>?_;cbv;refine .g h (fun (c3:Int)=>[.d (.val (.int .i64 at0)),.top,.top,.ptr 4 0,.ptr 5 0]++List.replicate 25 .top) (fun c3=>[.cells [.hd 1] 130,.mp (.int .i64) false (WM (Value.int .i64) eB m2),.cells [.clo (.func 41) [] [.ptr 3 0]] 88,.cells [.d (.val (.int .i64 c3))] 3,.cells [.d (.sl (W eNode nodes))] 25,.cells [.clo (.func 71) [] [.ptr 0 0,.ptr 2 0,.ptr 4 0,.ptr 5 0]] 88]) (fun y hm Kn1 hKn1=>?_) fun t h=>?_
  ·have h:=hm;clear hm;cbv;refine .inl (hP▸c41_ok) ?_;cbv;refine brkG h (fun h=>?_) (fun h=>?_)
   ·cbv;obtain rfl:=Option.some.inj h;refine hKn1 _ _ _ rfl (.nz (.mtE [0,1,2,3,4,5] ?_));(cbv;repeat (refine⟨by first | rfl | exact W_nil _ | simp only[W_nilx] | simp only[WM_nilx],?_⟩;cbv))
   ·cbv;obtain rfl:=Option.some.inj h;refine hKn1 _ _ _ rfl (.nz (.mtE [0,1,2,3,4,5] ?_));(cbv;repeat (refine⟨by first | rfl | exact W_nil _ | simp only[W_nilx] | simp only[WM_nilx],?_⟩;cbv))
  obtain⟨c3,rfl⟩:=ez t;cbv;refine .g h (fun _=>rfl) fun x4 h=>?_;cbv;refine .g h (fun ((own5,c6,v7):(List (Int×Bool))×Int×Int)=>List.replicate 4 .top++[.ptr 5 0]++List.replicate 15 .top++[.d (.sl (W eIi64 x4.Kids)),.d (.val (.int .i64 (io.len (W eIi64 x4.Kids)))),.d (.val (.int .i64 v7))]++List.replicate 7 .top) (fun (own5,c6,v7)=>[.cells [.hd 1] 130,.mp (.int .i64) false (WM (Value.int .i64) eB own5),.cells [.clo (.func 41) [] [.ptr 3 0]] 88,.cells [.d (.val (.int .i64 c6))] 3,.cells [.d (.sl (W eNode nodes))] 25,.cells [.clo (.func 71) [] [.ptr 0 0,.ptr 2 0,.ptr 4 0,.ptr 5 0]] 88]) (.nz (.mtE [0,1,2,3,4,5] ?_)) fun s x h hr1 Kn1 hKn1=>?_
  ·(cbv;repeat (refine⟨by first | rfl | exact W_nil _ | simp only[W_nilx] | simp only[WM_nilx],?_⟩;cbv))
  unfold walkV_l1 at h;obtain⟨own5,c6,v7⟩:=s;cbv;refine brkG h (fun h=>?_) (fun h=>?_)
  ·cbv;refine .g h (fun ((own8,c9):(List (Int×Bool))×Int)=>List.replicate 4 .top++[.ptr 5 0]++List.replicate 15 .top++[.d (.sl (W eIi64 x4.Kids)),.d (.val (.int .i64 (io.len (W eIi64 x4.Kids)))),.d (.val (.int .i64 v7))]++List.replicate 7 .top) (fun (own8,c9)=>[.cells [.hd 1] 130,.mp (.int .i64) false (WM (Value.int .i64) eB own8),.cells [.clo (.func 41) [] [.ptr 3 0]] 88,.cells [.d (.val (.int .i64 c9))] 3,.cells [.d (.sl (W eNode nodes))] 25,.cells [.clo (.func 71) [] [.ptr 0 0,.ptr 2 0,.ptr 4 0,.ptr 5 0]] 88]) (fun y hm Kn2 hKn2=>?_) fun t h=>?_
   ·have h:=hm;clear hm;cbv;refine .g h (fun _=>rfl) fun x10 h=>?_;cbv;obtain⟨r11,hm,h⟩:=Option.bind_eq_some_iff.1 h;refine .embL [0,1,2,3,4,5] (hrec _ _ _ _ hm) (by (cbv;repeat (refine⟨by first | rfl | exact W_nil _ | simp only[W_nilx] | simp only[WM_nilx],?_⟩;cbv))) fun sv0 own0 hq _=>?_;obtain⟨rfl,rfl⟩:=hq;clear hm;cbv;obtain rfl:=Option.some.inj h;refine hKn2 _ _ _ rfl (.nz (.mtE [0,1,2,3,4,5] ?_));(cbv;repeat (refine⟨by first | rfl | exact W_nil _ | simp only[W_nilx] | simp only[WM_nilx],?_⟩;cbv))
   obtain⟨own8,c9⟩:=t;cbv;obtain rfl:=Option.some.inj h;refine hKn1 _ _ _ rfl (.nz (.mtE [0,1,2,3,4,5] ?_));(cbv;repeat (refine⟨by first | rfl | exact W_nil _ | simp only[W_nilx] | simp only[WM_nilx],?_⟩;cbv))
  ·cbv;obtain rfl:=Option.some.inj h;obtain rfl:=hr1 _ rfl;refine hK _ _ [0,1,2,3,4,5] ?_;(cbv;repeat (refine⟨by first | rfl | exact W_nil _ | simp only[W_nilx] | simp only[WM_nilx],?_⟩;cbv))
theorem walkV_all {P:Program}(hP:P=Tryd.prog)(nodes:(List Node)):∀ (n:Nat)(at0:Int)(seen:(List (Int×Bool)))(nxt:Int)(r:(List (Int×Bool))×Int),walkV nodes n at0 seen nxt=some r→SCall P 71 [.cells [.hd 1] 130,.mp (.int .i64) false (WM (Value.int .i64) eB seen),.cells [.clo (.func 41) [] [.ptr 3 0]] 88,.cells [.d (.val (.int .i64 nxt))] 3,.cells [.d (.sl (W eNode nodes))] 25,.cells [.clo (.func 71) [] [.ptr 0 0,.ptr 2 0,.ptr 4 0,.ptr 5 0]] 88] [.d (.val (.int .i64 at0)),.ptr 0 0,.ptr 2 0,.ptr 4 0,.ptr 5 0] (fun sv own'=>sv=.tup []∧own'=[.cells [.hd 1] 130,.mp (.int .i64) false (WM (Value.int .i64) eB r.1),.cells [.clo (.func 41) [] [.ptr 3 0]] 88,.cells [.d (.val (.int .i64 r.2))] 3,.cells [.d (.sl (W eNode nodes))] 25,.cells [.clo (.func 71) [] [.ptr 0 0,.ptr 2 0,.ptr 4 0,.ptr 5 0]] 88])
 | 0,_,_,_,_,h=>by cases h
 | n+1,at0,seen,nxt,r,h=>walkV_R hP nodes _ at0 seen nxt (walkV_all hP nodes n) r h
end Go.SX.Td
