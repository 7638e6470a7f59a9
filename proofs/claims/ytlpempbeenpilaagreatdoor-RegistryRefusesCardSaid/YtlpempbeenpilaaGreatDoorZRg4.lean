/- Parts of the proof. -/
import Derived.Test.YtlpempbeenpilaaGreatDoorZRgT
import Derived.Test.YtlpempbeenpilaaGreatDoorZRg46d
import Derived.Test.YtlpempbeenpilaaGreatDoorZRg33d
import Derived.Test.YtlpempbeenpilaaGreatDoorZRg9
import Derived.Test.YtlpempbeenpilaaGreatDoorZRg92d
import Derived.Test.YtlpempbeenpilaaGreatDoorZRg30d
set_option linter.unusedSimpArgs false
set_option linter.unusedVariables false
set_option linter.unusedSectionVars false
namespace Go.SX.Rg
open Go Go.SX Go.Proofs
set_option maxRecDepth 100000
def c4r0 : List GOp:=[
 gv 4 (.mv (.const (.bool false)))]
def c4r1 : List GOp:=[
 gv 15 (.call 9 []),
 gv 5 (.mv (.tmp 15))]
def c4r2 : List GOp:=[
 gv 16 (.mv (.tmp 1)),
 gv 17 (.call 10 [(.tmp 16)]),
 gv 18 (.un .not (.tmp 17))]
def c4r3 : List GOp:=[
 gv 19 (.mv (.tmp 5)),
 gv 4 (.mv (.tmp 19))]
def c4r4 : List GOp:=[
 gv 20 (.mv (.tmp 0)),
 gv 21 (.cvi .i64 (.tmp 20)),
 gv 22 (.div .rem (.tmp 21) (.const (.int .i64 20))),
 gv 6 (.mv (.tmp 22))]
def c4r5 : List GOp:=[
 gv 23 (.mv (.tmp 0)),
 gv 24 (.mv (.tmp 1)),
 gv 25 (.call 29 [(.tmp 23),(.tmp 24)]),
 gv 7 (.mv (.tmp 25))]
def c4r6 : List GOp:=[
 gv 26 (.mks 3 1 8 oz (.const (.int .i64 8)) (.const (.int .i64 8))),
 gv 8 (.mv (.tmp 26))]
def c4r7 : List GOp:=[
 gv 9 (.mv (.const (.bool false)))]
def c4r8 : List GOp:=[
 gv 10 (.mv (.const (.int .i64 1)))]
def c4r9 : List GOp:=[
 gv 27 (.mv (.tmp 10)),
 gv 28 (.mv (.tmp 1)),
 gv 29 (.len false (.tmp 28)),
 gv 30 (.bin .add (.tmp 29) (.const (.int .i64 1))),
 gv 31 (.bin .leq (.tmp 27) (.tmp 30))]
def c4r10 : List GOp:=[
 gv 35 (.mv (.tmp 7)),
 gv 36 (.mv (.tmp 6)),
 gv 37 (.bin .add (.tmp 36) (.const (.int .i64 1))),
 gv 38 (.bin .mul (.tmp 37) (.const (.int .i64 10000))),
 gv 39 (.mv (.tmp 10)),
 gv 40 (.bin .add (.tmp 38) (.tmp 39)),
 gv 41 (.call 14 [(.tmp 35),(.tmp 40)]),
 gv 34 (.mv (.tmp 41)),
 gv 42 (.ext (.tmp 34) 0),
 gv 43 (.ext (.tmp 34) 1),
 gv 44 (.ext (.tmp 34) 2),
 gv 11 (.alloc 35 (.agg #[oz,oz,oz,(.string ⟨#[]⟩),(.slice none 0 0)])),
 ⟨none,.store 5 (.tmp 11) (.tmp 42),none⟩,
 gv 12 (.mv (.tmp 43)),
 gv 13 (.mv (.tmp 44))]
def c4r11 : List GOp:=[
 gv 45 (.mv (.tmp 13)),
 gv 46 (.bin .neq (.tmp 45) (.const (.int .i64 0)))]
def c4r12 : List GOp:=[
 gv 9 (.mv (.const (.bool true)))]
def c4r13 : List GOp:=[
 gv 47 (.mv (.tmp 9)),
 gv 48 (.mv (.tmp 47)),
 gw 49 48 false (.fadd 0 (.tmp 11)),
 gw 50 48 false (.load 1 false (.tmp 49)),
 gw 51 48 false (.mv (.tmp 6)),
 gw 52 48 false (.bin .add (.tmp 51) (.const (.int .i64 1))),
 gw 53 48 false (.bin .mul (.tmp 52) (.const (.int .i64 10000))),
 gw 54 48 false (.mv (.tmp 10)),
 gw 55 48 false (.bin .add (.tmp 53) (.tmp 54)),
 gw 56 48 false (.bin .neq (.tmp 50) (.tmp 55)),
 gv 57 (.pick (.tmp 48) (.const (.bool true)) (.tmp 56)),
 gv 58 (.mv (.tmp 57)),
 gw 59 58 false (.fadd 1 (.tmp 11)),
 gw 60 58 false (.load 1 false (.tmp 59)),
 gw 61 58 false (.mv (.tmp 6)),
 gw 62 58 false (.bin .neq (.tmp 60) (.tmp 61)),
 gv 63 (.pick (.tmp 58) (.const (.bool true)) (.tmp 62)),
 gv 64 (.mv (.tmp 63)),
 gw 65 64 false (.fadd 2 (.tmp 11)),
 gw 66 64 false (.load 1 false (.tmp 65)),
 gw 67 64 false (.bin .lss (.tmp 66) (.const (.int .i64 (-1)))),
 gv 68 (.pick (.tmp 64) (.const (.bool true)) (.tmp 67)),
 gv 69 (.mv (.tmp 68)),
 gw 70 69 false (.fadd 2 (.tmp 11)),
 gw 71 69 false (.load 1 false (.tmp 70)),
 gw 72 69 false (.bin .geq (.tmp 71) (.const (.int .i64 8))),
 gv 73 (.pick (.tmp 69) (.const (.bool true)) (.tmp 72)),
 gv 74 (.mv (.tmp 73)),
 gw 75 74 false (.mv (.tmp 12)),
 gw 76 74 false (.bin .lss (.tmp 75) (.const (.int .i64 0))),
 gv 77 (.pick (.tmp 74) (.const (.bool true)) (.tmp 76))]
def c4r14 : List GOp:=[
 gv 4 (.mv (.const (.bool false)))]
def c4r15 : List GOp:=[
 gv 78 (.mv (.tmp 12)),
 gv 79 (.bin .eql (.tmp 78) (.const (.int .i64 0))),
 gv 80 (.mv (.tmp 79)),
 gw 81 80 true (.fadd 2 (.tmp 11)),
 gw 82 80 true (.load 1 false (.tmp 81)),
 gw 83 80 true (.bin .geq (.tmp 82) (.const (.int .i64 0))),
 gv 84 (.pick (.tmp 80) (.tmp 83) (.const (.bool false)))]
def c4r16 : List GOp:=[
 gv 85 (.mv (.tmp 8)),
 gv 86 (.fadd 2 (.tmp 11)),
 gv 87 (.load 1 false (.tmp 86)),
 gv 88 (.idxA 1 (.tmp 85) (.tmp 87)),
 gv 89 (.load 1 false (.tmp 88)),
 gv 90 (.bin .neq (.tmp 89) (.const (.int .i64 0)))]
def c4r17 : List GOp:=[
 gv 4 (.mv (.const (.bool false)))]
def c4r18 : List GOp:=[
 gv 91 (.mv (.tmp 8)),
 gv 92 (.fadd 2 (.tmp 11)),
 gv 93 (.load 1 false (.tmp 92)),
 gv 94 (.fadd 0 (.tmp 11)),
 gv 95 (.load 1 false (.tmp 94)),
 gv 96 (.idxA 1 (.tmp 91) (.tmp 93)),
 ⟨none,.store 1 (.tmp 96) (.tmp 95),none⟩]
def c4r19 : List GOp:=[
 gv 32 (.mv (.tmp 10)),
 gv 33 (.bin .add (.tmp 32) (.const (.int .i64 1))),
 gv 10 (.mv (.tmp 33))]
def c4l20 : DE:=.seq (.seq (.reg c4r9) (.cond (.tmp 31) (.skip) (.exit 0))) (.join (.block 1 (.join (.reg c4r10) (.seq (.seq (.reg c4r11) (.cond (.tmp 46) (.seq (.reg c4r12) (.exit 1)) (.skip))) (.seq (.join (.reg c4r13) (.cond (.tmp 77) (.seq (.reg c4r14) (.ret)) (.skip))) (.join (.reg c4r15) (.cond (.tmp 84) (.seq (.seq (.reg c4r16) (.cond (.tmp 90) (.seq (.reg c4r17) (.ret)) (.skip))) (.reg c4r18)) (.skip))))))) (.reg c4r19))
def c4r21 : List GOp:=[
 gv 14 (.mv (.const (.int .i64 0)))]
def c4r22 : List GOp:=[
 gv 97 (.mv (.tmp 14)),
 gv 98 (.bin .lss (.tmp 97) (.const (.int .i64 8)))]
def c4r23 : List GOp:=[
 gv 101 (.mv (.tmp 7)),
 gv 102 (.mv (.tmp 14)),
 gv 103 (.call 25 [(.tmp 101),(.tmp 102)]),
 gv 104 (.mv (.tmp 8)),
 gv 105 (.mv (.tmp 14)),
 gv 106 (.idxA 1 (.tmp 104) (.tmp 105)),
 gv 107 (.load 1 false (.tmp 106)),
 gv 108 (.bin .neq (.tmp 103) (.tmp 107))]
def c4r24 : List GOp:=[
 gv 4 (.mv (.const (.bool false)))]
def c4r25 : List GOp:=[
 gv 99 (.mv (.tmp 14)),
 gv 100 (.bin .add (.tmp 99) (.const (.int .i64 1))),
 gv 14 (.mv (.tmp 100))]
def c4l26 : DE:=.seq (.seq (.reg c4r22) (.cond (.tmp 98) (.skip) (.exit 2))) (.seq (.block 3 (.join (.par false false false true 7 c4r23) (.cond (.tmp 108) (.seq (.reg c4r24) (.ret)) (.skip)))) (.reg c4r25))
def c4r27 : List GOp:=[
 gv 109 (.mv (.tmp 5)),
 gv 110 (.mv (.tmp 109)),
 gw 111 110 true (.mv (.tmp 9)),
 gv 112 (.pick (.tmp 110) (.tmp 111) (.const (.bool false))),
 gv 113 (.mv (.tmp 112)),
 gw 114 113 true (.mv (.tmp 7)),
 gw 115 113 true (.call 25 [(.tmp 114),(.const (.int .i64 (-1)))]),
 gw 116 113 true (.bin .eql (.tmp 115) (.const (.int .i64 0))),
 gv 117 (.pick (.tmp 113) (.tmp 116) (.const (.bool false))),
 gv 118 (.mv (.tmp 117)),
 gw 119 118 true (.mv (.tmp 7)),
 gw 120 118 true (.call 25 [(.tmp 119),(.const (.int .i64 8))]),
 gw 121 118 true (.bin .eql (.tmp 120) (.const (.int .i64 0))),
 gv 122 (.pick (.tmp 118) (.tmp 121) (.const (.bool false))),
 gv 4 (.mv (.tmp 122))]
def c4 : EFn:=⟨123,.seq (.reg c4r0) (.seq (.reg c4r1) (.seq (.seq (.reg c4r2) (.cond (.tmp 18) (.seq (.reg c4r3) (.ret)) (.skip))) (.seq (.reg c4r4) (.seq (.reg c4r5) (.seq (.reg c4r6) (.seq (.reg c4r7) (.join (.seq (.reg c4r8) (.block 0 (.loop c4l20))) (.join (.seq (.reg c4r21) (.block 2 (.loop c4l26))) (.seq (.reg c4r27) (.ret)))))))))),[.tmp 4]⟩
theorem c4_ok : compF Tryz.prog 4=some c4.er:=by kernel_rfl
set_option maxHeartbeats 4000000 in
theorem law32_RegistryOnes_R {P:Program}(hP:P=Tryz.prog)(show_:Int)(l:(List Op))(r:Bool)(h:law32_RegistryOnes_g show_ l=some r):Fn1 P 4 [vIu8 show_,vLOp l] (vB r):=by
 refine .walkE (hP▸c4_ok) fun K hK=>?_;unfold law32_RegistryOnes_g at h;cbv;refine .g h (fun v hv=>law32_head_R hP v hv) aw_ rfl (fun _=>rfl) fun up1 h=>?_;cbv;refine .g h (fun v hv=>law32_few_R hP _ v hv) aw_ rfl (fun _=>rfl) fun v2 h=>?_;cbv;refine brkG h ?_ ?_<;>intro h
 ·cbv;obtain rfl:=oj h;exact hK _ _ aw_
 ·cbv;refine .g h fun h=>?_;cbv;obtain⟨r3,hm,h⟩:=Option.bind_eq_some_iff.1 h;refine .embL [] (law32_played_R hP _ _ _ hm) (by (cbv;repeat (refine⟨an_,?_⟩;cbv))) fun sv0 own0 hq _=>?_;obtain⟨rfl,rfl⟩:=hq;clear hm;cbv;refine .g (e:=eIi64) h aw_ (by decide) fun l4 h=>?_;cbv;refine .ga h (fun ((at5,ended6):(List Int)×Bool)=>rp 5 .top++[ob up1,.top,.ptr 0 0,.hd 3,ob ended6]++rp 113 .top) (fun (at5,ended6)=>[.cells [oi r3.1,oi r3.2.1,.hd 1,.hd 2] 74,.mp (.int .i64) true (WM (Value.int .i64) eEntry r3.2.2.1),.mp (.int .i64) false (WM (Value.int .i64) eIi64 r3.2.2.2),.row 3 1 (W eIi64 at5)]) (fun y hm hr1 Kn1 hKn1=>?_) fun t h=>?_
  ·have h:=hm;clear hm;cbv;refine .g h (fun ((at7,ended8,k9):(List Int)×Bool×Int)=>[.top,.d (.sl (W eOp l))]++rp 3 .top++[ob up1,oi (io.rem (io.wrap .i64 show_) 20),.ptr 0 0,.hd 3,ob ended8,oi k9]++rp 112 .top) (fun (at7,ended8,k9)=>[.cells [oi r3.1,oi r3.2.1,.hd 1,.hd 2] 74,.mp (.int .i64) true (WM (Value.int .i64) eEntry r3.2.2.1),.mp (.int .i64) false (WM (Value.int .i64) eIi64 r3.2.2.2),.row 3 1 (W eIi64 at7)]) (.nz (.mtE [0,1,2,3] ?_)) fun s x h hr2 Kn2 hKn2=>?_
   ·(cbv;repeat (refine⟨an_,?_⟩;cbv))
   unfold law32_RegistryOnes_l2 at h;obtain⟨at7,ended8,k9⟩:=s;cbv;refine brkG h ?_ ?_<;>intro h
   ·cbv;refine .ga h (fun ((at10,ended11):(List Int)×Bool)=>[.top,.d (.sl (W eOp l))]++rp 3 .top++[ob up1,oi (io.rem (io.wrap .i64 show_) 20),.ptr 0 0,.hd 3,ob ended11,oi k9]++rp 112 .top) (fun (at10,ended11)=>[.cells [oi r3.1,oi r3.2.1,.hd 1,.hd 2] 74,.mp (.int .i64) true (WM (Value.int .i64) eEntry r3.2.2.1),.mp (.int .i64) false (WM (Value.int .i64) eIi64 r3.2.2.2),.row 3 1 (W eIi64 at10)]) (fun y hm hr3 Kn3 hKn3=>?_) fun t h=>?_
    ·have h:=hm;clear hm;cbv;refine .g h (fun ((Serial12,Show13,Place14,First15,Chain16,gone17,e18):Int×Int×Int×ByteArray×(List Transfer)×Int×Int)=>[.top,.d (.sl (W eOp l))]++rp 3 .top++[ob up1,oi (io.rem (io.wrap .i64 show_) 20),.ptr 0 0,.hd 3,ob ended8,oi k9,.ptr 4 0,oi gone17,oi e18]++rp 109 .top) (fun (Serial12,Show13,Place14,First15,Chain16,gone17,e18)=>[.cells [oi r3.1,oi r3.2.1,.hd 1,.hd 2] 74,.mp (.int .i64) true (WM (Value.int .i64) eEntry r3.2.2.1),.mp (.int .i64) false (WM (Value.int .i64) eIi64 r3.2.2.2),.row 3 1 (W eIi64 at7),.cells [oi Serial12,oi Show13,oi Place14,.d (.val (.string First15)),.d (.sl (W eTransfer Chain16))] 35]) (fun y hm Kn4 hKn4=>?_) fun t h=>?_
     ·have h:=hm;clear hm;cbv;obtain⟨r19,hm,h⟩:=Option.bind_eq_some_iff.1 h;refine .embL [0,1,2] (registry_Registry_Title_R hP _ _ _ _ _ _ hm) (by (cbv;repeat (refine⟨an_,?_⟩;cbv))) fun sv0 own0 hq _=>?_;obtain⟨rfl,rfl⟩:=hq;clear hm;cbv;obtain rfl:=oj h;refine hKn4 _ _ _ rfl (.nz (.mtE [0,1,2,3,4] ?_));(cbv;repeat (refine⟨an_,?_⟩;cbv))
     obtain⟨Serial12,Show13,Place14,First15,Chain16,gone17,e18⟩:=t;cbv;refine brkG h ?_ ?_<;>intro h
     ·cbv;obtain rfl:=oj h;refine hKn3 _ _ _ rfl (.nz (.mtE [0,1,2,3] ?_));(cbv;repeat (refine⟨an_,?_⟩;cbv))
     ·cbv;refine .g h (fun (v20:Bool)=>[.top,.d (.sl (W eOp l))]++rp 3 .top++[ob up1,oi (io.rem (io.wrap .i64 show_) 20),.ptr 0 0,.hd 3,ob ended8,oi k9,.ptr 4 0,oi gone17]++rp 64 .top++[ob v20]++rp 45 .top) (fun v20=>[.cells [oi r3.1,oi r3.2.1,.hd 1,.hd 2] 74,.mp (.int .i64) true (WM (Value.int .i64) eEntry r3.2.2.1),.mp (.int .i64) false (WM (Value.int .i64) eIi64 r3.2.2.2),.row 3 1 (W eIi64 at7),.cells [oi Serial12,oi Show13,oi Place14,.d (.val (.string First15)),.d (.sl (W eTransfer Chain16))] 35]) (fun y hm Kn4 hKn4=>?_) fun t h=>?_
      ·have h:=hm;clear hm;cbv;refine brkG h ?_ ?_<;>intro h
       ·cbv;obtain rfl:=oj h;refine hKn4 _ _ _ rfl (.nz (.mtE [0,1,2,3,4] ?_));(cbv;repeat (refine⟨an_,?_⟩;cbv))
       ·cbv;refine brkG h ?_ ?_<;>intro h
        ·cbv;obtain rfl:=oj h;refine hKn4 _ _ _ rfl (.nz (.mtE [0,1,2,3,4] ?_));(cbv;repeat (refine⟨an_,?_⟩;cbv))
        ·cbv;refine brkG h ?_ ?_<;>intro h
         ·cbv;obtain rfl:=oj h;refine hKn4 _ _ _ rfl (.nz (.mtE [0,1,2,3,4] ?_));(cbv;repeat (refine⟨an_,?_⟩;cbv))
         ·cbv;refine brkG h ?_ ?_<;>intro h
          ·cbv;obtain rfl:=oj h;refine hKn4 _ _ _ rfl (.nz (.mtE [0,1,2,3,4] ?_));(cbv;repeat (refine⟨an_,?_⟩;cbv))
          ·cbv;refine brkG h ?_ ?_<;>intro h
           ·cbv;obtain rfl:=oj h;refine hKn4 _ _ _ rfl (.nz (.mtE [0,1,2,3,4] ?_));(cbv;repeat (refine⟨an_,?_⟩;cbv))
           ·cbv;obtain rfl:=oj h;refine hKn4 _ _ _ rfl (.nz (.mtE [0,1,2,3,4] ?_));(cbv;repeat (refine⟨an_,?_⟩;cbv))
      obtain⟨v20,rfl⟩:=ez t;cbv;refine brkG h ?_ ?_<;>intro h
      ·cbv;obtain rfl:=oj h;obtain rfl:=hr3 _ rfl;obtain rfl:=hr2 _ rfl;obtain rfl:=hr1 _ rfl;exact hK _ _ aw_
      ·cbv;refine .g h (fun (v21:Bool)=>[.top,.d (.sl (W eOp l))]++rp 3 .top++[ob up1,oi (io.rem (io.wrap .i64 show_) 20),.ptr 0 0,.hd 3,ob ended8,oi k9,.ptr 4 0]++rp 72 .top++[ob v21]++rp 38 .top) (fun v21=>[.cells [oi r3.1,oi r3.2.1,.hd 1,.hd 2] 74,.mp (.int .i64) true (WM (Value.int .i64) eEntry r3.2.2.1),.mp (.int .i64) false (WM (Value.int .i64) eIi64 r3.2.2.2),.row 3 1 (W eIi64 at7),.cells [oi Serial12,oi Show13,oi Place14,.d (.val (.string First15)),.d (.sl (W eTransfer Chain16))] 35]) (fun y hm Kn4 hKn4=>?_) fun t h=>?_
       ·have h:=hm;clear hm;cbv;refine brkG h ?_ ?_<;>intro h
        ·cbv;obtain rfl:=oj h;refine hKn4 _ _ _ rfl (.nz (.mtE [0,1,2,3,4] ?_));(cbv;repeat (refine⟨an_,?_⟩;cbv))
        ·cbv;obtain rfl:=oj h;refine hKn4 _ _ _ rfl (.nz (.mtE [0,1,2,3,4] ?_));(cbv;repeat (refine⟨an_,?_⟩;cbv))
       obtain⟨v21,rfl⟩:=ez t;cbv;refine brkG h ?_ ?_<;>intro h
       ·cbv;refine .g h fun i22 h=>?_;cbv;refine .g h fun v23 h=>?_;cbv;refine brkG h ?_ ?_<;>intro h
        ·cbv;obtain rfl:=oj h;obtain rfl:=hr3 _ rfl;obtain rfl:=hr2 _ rfl;obtain rfl:=hr1 _ rfl;exact hK _ _ aw_
        ·cbv;refine .g h fun i24 h=>?_;cbv;refine .g h (fun _=>by first | rfl | exact W_nil _ | (cbv;simp only[W_nilx])) fun l26 h=>?_;cbv;obtain rfl:=oj h;refine hKn3 _ _ _ rfl (.nz (.mtE [0,1,2,3] ?_));(cbv;repeat (refine⟨an_,?_⟩;cbv))
       ·cbv;obtain rfl:=oj h;refine hKn3 _ _ _ rfl (.nz (.mtE [0,1,2,3] ?_));(cbv;repeat (refine⟨an_,?_⟩;cbv))
    obtain⟨at10,ended11⟩:=t;cbv;obtain rfl:=oj h;refine hKn2 _ _ _ rfl (.nz (.mtE [0,1,2,3] ?_));(cbv;repeat (refine⟨an_,?_⟩;cbv))
   ·cbv;obtain rfl:=oj h;obtain rfl:=hr2 _ rfl;refine hKn1 _ _ _ rfl (.nz (.mtE [0,1,2,3] ?_));(cbv;repeat (refine⟨an_,?_⟩;cbv))
  obtain⟨at5,ended6⟩:=t;cbv;refine .ga h (fun (_:Unit)=>rp 5 .top++[ob up1,.top,.ptr 0 0,.top,ob ended6]++rp 113 .top) (fun _=>[.cells [oi r3.1,oi r3.2.1,.hd 1,.hd 2] 74,.mp (.int .i64) true (WM (Value.int .i64) eEntry r3.2.2.1),.mp (.int .i64) false (WM (Value.int .i64) eIi64 r3.2.2.2)]) (fun y hm hr1 Kn1 hKn1=>?_) fun t h=>?_
  ·have h:=hm;clear hm;cbv;refine .g h (fun (p27:Int)=>rp 5 .top++[ob up1,.top,.ptr 0 0,.hd 3,ob ended6]++rp 4 .top++[oi p27]++rp 108 .top) (fun p27=>[.cells [oi r3.1,oi r3.2.1,.hd 1,.hd 2] 74,.mp (.int .i64) true (WM (Value.int .i64) eEntry r3.2.2.1),.mp (.int .i64) false (WM (Value.int .i64) eIi64 r3.2.2.2),.row 3 1 (W eIi64 at5)]) (.nz (.mtE [0,1,2,3] ?_)) fun s x h hr2 Kn2 hKn2=>?_
   ·(cbv;repeat (refine⟨an_,?_⟩;cbv))
   unfold law32_RegistryOnes_l4 at h;obtain⟨p27,rfl⟩:=ez s;cbv;refine brkG h ?_ ?_<;>intro h
   ·cbv;refine .g h (fun (v28:Bool)=>rp 5 .top++[ob up1,.top,.ptr 0 0,.hd 3,ob ended6]++rp 4 .top++[oi p27]++rp 93 .top++[ob v28]++rp 14 .top) (fun v28=>[.cells [oi r3.1,oi r3.2.1,.hd 1,.hd 2] 74,.mp (.int .i64) true (WM (Value.int .i64) eEntry r3.2.2.1),.mp (.int .i64) false (WM (Value.int .i64) eIi64 r3.2.2.2),.row 3 1 (W eIi64 at5)]) (fun y hm Kn3 hKn3=>?_) fun t h=>?_
    ·have h:=hm;clear hm;cbv;obtain⟨r29,hm,h⟩:=Option.bind_eq_some_iff.1 h;refine .embR [0,1,2] (registry_Registry_At_R hP _ _ _ _ _ _ hm) (by (cbv;repeat (refine⟨an_,?_⟩;cbv))) rfl rfl rfl ?_;clear hm;cbv;refine .g h fun i30 h=>?_;cbv;refine .g h fun v31 h=>?_;cbv;obtain rfl:=oj h;refine hKn3 _ _ _ rfl (.nz (.mtE [0,1,2,3] ?_));(cbv;repeat (refine⟨an_,?_⟩;cbv))
    obtain⟨v28,rfl⟩:=ez t;cbv;refine brkG h ?_ ?_<;>intro h
    ·cbv;obtain rfl:=oj h;obtain rfl:=hr2 _ rfl;obtain rfl:=hr1 _ rfl;exact hK _ _ aw_
    ·cbv;obtain rfl:=oj h;refine hKn2 _ _ _ rfl (.nz (.mtE [0,1,2,3] ?_));(cbv;repeat (refine⟨an_,?_⟩;cbv))
   ·cbv;obtain rfl:=oj h;obtain rfl:=hr2 _ rfl;refine hKn1 _ _ _ rfl (.nz (.mtE [0,1,2] ?_));(cbv;repeat (refine⟨an_,?_⟩;cbv))
  cbv;refine brkG h ?_ ?_<;>intro h
  ·cbv;refine brkG h ?_ ?_<;>intro h
   ·cbv;obtain⟨r32,hm,h⟩:=Option.bind_eq_some_iff.1 h;refine .embL [0,1,2] (registry_Registry_At_R hP _ _ _ _ _ _ hm) (by (cbv;repeat (refine⟨an_,?_⟩;cbv))) fun sv0 own0 hq _=>?_;obtain⟨rfl,rfl⟩:=hq;clear hm;cbv;refine brkG h ?_ ?_<;>intro h
    ·cbv;obtain⟨r33,hm,h⟩:=Option.bind_eq_some_iff.1 h;refine .embL [0,1,2] (registry_Registry_At_R hP _ _ _ _ _ _ hm) (by (cbv;repeat (refine⟨an_,?_⟩;cbv))) fun sv0 own0 hq _=>?_;obtain⟨rfl,rfl⟩:=hq;clear hm;cbv;obtain rfl:=oj h;exact hK _ _ aw_
    ·cbv;obtain rfl:=oj h;exact hK _ _ aw_
   ·cbv;obtain rfl:=oj h;exact hK _ _ aw_
  ·cbv;obtain rfl:=oj h;exact hK _ _ aw_
end Go.SX.Rg
namespace Go.SX.Rg
open Go Go.SX Go.Proofs
set_option maxRecDepth 100000
def c6r0 : List GOp:=[
 gv 8 (.mv (.const (.bool false)))]
def c6r1 : List GOp:=[
 gv 25 (.call 9 []),
 gv 9 (.mv (.tmp 25))]
def c6r2 : List GOp:=[
 gv 26 (.mv (.tmp 1)),
 gv 27 (.call 10 [(.tmp 26)]),
 gv 28 (.un .not (.tmp 27)),
 gv 29 (.mv (.tmp 28)),
 gw 30 29 false (.mv (.tmp 1)),
 gw 31 29 false (.len false (.tmp 30)),
 gw 32 29 false (.bin .eql (.tmp 31) (.const (.int .i64 0))),
 gv 33 (.pick (.tmp 29) (.const (.bool true)) (.tmp 32))]
def c6r3 : List GOp:=[
 gv 34 (.mv (.tmp 9)),
 gv 8 (.mv (.tmp 34))]
def c6r4 : List GOp:=[
 gv 35 (.mv (.tmp 0)),
 gv 36 (.cvi .i64 (.tmp 35)),
 gv 37 (.div .rem (.tmp 36) (.const (.int .i64 20))),
 gv 10 (.mv (.tmp 37))]
def c6r5 : List GOp:=[
 gv 38 (.mv (.tmp 0)),
 gv 39 (.mv (.tmp 1)),
 gv 40 (.call 29 [(.tmp 38),(.tmp 39)]),
 gv 11 (.mv (.tmp 40))]
def c6r6 : List GOp:=[
 gv 41 (.mv (.tmp 0)),
 gv 42 (.mv (.tmp 1)),
 gv 43 (.call 29 [(.tmp 41),(.tmp 42)]),
 gv 12 (.mv (.tmp 43))]
def c6r7 : List GOp:=[
 gv 44 (.mv (.tmp 10)),
 gv 45 (.bin .add (.tmp 44) (.const (.int .i64 1))),
 gv 46 (.bin .mul (.tmp 45) (.const (.int .i64 10000))),
 gv 47 (.bin .add (.tmp 46) (.const (.int .i64 1))),
 gv 48 (.mv (.tmp 2)),
 gv 49 (.cvi .i64 (.tmp 48)),
 gv 50 (.mv (.tmp 1)),
 gv 51 (.len false (.tmp 50)),
 gv 52 (.div .rem (.tmp 49) (.tmp 51)),
 gv 53 (.bin .add (.tmp 47) (.tmp 52)),
 gv 13 (.mv (.tmp 53))]
def c6r8 : List GOp:=[
 gv 55 (.mv (.tmp 11)),
 gv 56 (.mv (.tmp 13)),
 gv 57 (.call 14 [(.tmp 55),(.tmp 56)]),
 gv 54 (.mv (.tmp 57)),
 gv 58 (.ext (.tmp 54) 0),
 gv 59 (.ext (.tmp 54) 1),
 gv 60 (.ext (.tmp 54) 2),
 gv 14 (.alloc 35 (.agg #[oz,oz,oz,(.string ⟨#[]⟩),(.slice none 0 0)])),
 ⟨none,.store 5 (.tmp 14) (.tmp 58),none⟩,
 gv 15 (.mv (.tmp 59)),
 gv 16 (.mv (.tmp 60))]
def c6r9 : List GOp:=[
 gv 61 (.mv (.tmp 16)),
 gv 62 (.bin .neq (.tmp 61) (.const (.int .i64 0))),
 gv 63 (.mv (.tmp 62)),
 gw 64 63 false (.mv (.tmp 11)),
 gw 65 63 false (.mv (.tmp 13)),
 gw 66 63 false (.mv (.tmp 3)),
 gw 67 63 false (.call 38 [(.tmp 64),(.tmp 65),(.tmp 66)]),
 gw 68 63 false (.bin .neq (.tmp 67) (.const (.int .i64 0))),
 gv 69 (.pick (.tmp 63) (.const (.bool true)) (.tmp 68))]
def c6r10 : List GOp:=[
 gv 70 (.mv (.tmp 9)),
 gv 71 (.mv (.tmp 70)),
 gw 72 71 true (.mv (.tmp 11)),
 gw 73 71 true (.mv (.tmp 12)),
 gw 74 71 true (.mv (.tmp 10)),
 gw 75 71 true (.mv (.tmp 1)),
 gw 76 71 true (.len false (.tmp 75)),
 gw 77 71 true (.call 39 [(.tmp 72),(.tmp 73),(.tmp 74),(.const (.int .i64 8)),(.tmp 76)]),
 gv 78 (.pick (.tmp 71) (.tmp 77) (.const (.bool false))),
 gv 8 (.mv (.tmp 78))]
def c6r11 : List GOp:=[
 gv 17 (.mv (.const (.int .i64 1)))]
def c6r12 : List GOp:=[
 gv 79 (.mv (.tmp 17)),
 gv 80 (.mv (.tmp 1)),
 gv 81 (.len false (.tmp 80)),
 gv 82 (.bin .leq (.tmp 79) (.tmp 81))]
def c6r13 : List GOp:=[
 gv 86 (.mv (.tmp 11)),
 gv 87 (.mv (.tmp 10)),
 gv 88 (.bin .add (.tmp 87) (.const (.int .i64 1))),
 gv 89 (.bin .mul (.tmp 88) (.const (.int .i64 10000))),
 gv 90 (.mv (.tmp 17)),
 gv 91 (.bin .add (.tmp 89) (.tmp 90)),
 gv 92 (.call 14 [(.tmp 86),(.tmp 91)]),
 gv 85 (.mv (.tmp 92)),
 gv 93 (.ext (.tmp 85) 0),
 gv 94 (.ext (.tmp 85) 1),
 gv 95 (.ext (.tmp 85) 2),
 gv 18 (.alloc 35 (.agg #[oz,oz,oz,(.string ⟨#[]⟩),(.slice none 0 0)])),
 ⟨none,.store 5 (.tmp 18) (.tmp 93),none⟩,
 gv 19 (.mv (.tmp 94)),
 gv 20 (.mv (.tmp 95))]
def c6r14 : List GOp:=[
 gv 97 (.mv (.tmp 12)),
 gv 98 (.mv (.tmp 10)),
 gv 99 (.bin .add (.tmp 98) (.const (.int .i64 1))),
 gv 100 (.bin .mul (.tmp 99) (.const (.int .i64 10000))),
 gv 101 (.mv (.tmp 17)),
 gv 102 (.bin .add (.tmp 100) (.tmp 101)),
 gv 103 (.call 14 [(.tmp 97),(.tmp 102)]),
 gv 96 (.mv (.tmp 103)),
 gv 104 (.ext (.tmp 96) 0),
 gv 105 (.ext (.tmp 96) 1),
 gv 106 (.ext (.tmp 96) 2),
 gv 21 (.alloc 35 (.agg #[oz,oz,oz,(.string ⟨#[]⟩),(.slice none 0 0)])),
 ⟨none,.store 5 (.tmp 21) (.tmp 104),none⟩,
 gv 22 (.mv (.tmp 105)),
 gv 23 (.mv (.tmp 106))]
def c6r15 : List GOp:=[
 gv 107 (.fadd 0 (.tmp 18)),
 gv 108 (.load 1 false (.tmp 107)),
 gv 109 (.mv (.tmp 13)),
 gv 110 (.bin .eql (.tmp 108) (.tmp 109))]
def c6r16 : List GOp:=[
 gv 111 (.mv (.tmp 3)),
 gv 112 (.fadd 2 (.tmp 21)),
 ⟨none,.store 1 (.tmp 112) (.tmp 111),none⟩]
def c6r17 : List GOp:=[
 gv 113 (.mv (.tmp 19)),
 gv 114 (.mv (.tmp 22)),
 gv 115 (.bin .neq (.tmp 113) (.tmp 114)),
 gv 116 (.mv (.tmp 115)),
 gw 117 116 false (.load 5 true (.tmp 18)),
 gw 118 116 false (.load 5 true (.tmp 21)),
 gw 119 116 false (.call 28 [(.tmp 117),(.tmp 118)]),
 gw 120 116 false (.un .not (.tmp 119)),
 gv 121 (.pick (.tmp 116) (.const (.bool true)) (.tmp 120))]
def c6r18 : List GOp:=[
 gv 8 (.mv (.const (.bool false)))]
def c6r19 : List GOp:=[
 gv 83 (.mv (.tmp 17)),
 gv 84 (.bin .add (.tmp 83) (.const (.int .i64 1))),
 gv 17 (.mv (.tmp 84))]
def c6l20 : DE:=.seq (.seq (.reg c6r12) (.cond (.tmp 82) (.skip) (.exit 0))) (.seq (.block 1 (.join (.reg c6r13) (.join (.reg c6r14) (.join (.seq (.reg c6r15) (.cond (.tmp 110) (.reg c6r16) (.skip))) (.join (.reg c6r17) (.cond (.tmp 121) (.seq (.reg c6r18) (.ret)) (.skip))))))) (.reg c6r19))
def c6r21 : List GOp:=[
 gv 24 (.mv (.const (.int .i64 0)))]
def c6r22 : List GOp:=[
 gv 122 (.mv (.tmp 3)),
 gv 123 (.bin .geq (.tmp 122) (.const (.int .i64 0)))]
def c6r23 : List GOp:=[
 gv 124 (.mv (.tmp 13)),
 gv 24 (.mv (.tmp 124))]
def c6r24 : List GOp:=[
 gv 125 (.mv (.tmp 9)),
 gv 126 (.mv (.tmp 125)),
 gw 127 126 true (.mv (.tmp 11)),
 gw 128 126 true (.mv (.tmp 3)),
 gw 129 126 true (.call 25 [(.tmp 127),(.tmp 128)]),
 gw 130 126 true (.mv (.tmp 24)),
 gw 131 126 true (.bin .eql (.tmp 129) (.tmp 130)),
 gv 132 (.pick (.tmp 126) (.tmp 131) (.const (.bool false))),
 gv 133 (.mv (.tmp 132)),
 gw 134 133 true (.mv (.tmp 11)),
 gw 135 133 true (.mv (.tmp 13)),
 gw 136 133 true (.fadd 2 (.tmp 14)),
 gw 137 133 true (.load 1 false (.tmp 136)),
 gw 138 133 true (.call 38 [(.tmp 134),(.tmp 135),(.tmp 137)]),
 gw 139 133 true (.bin .eql (.tmp 138) (.const (.int .i64 0))),
 gv 140 (.pick (.tmp 133) (.tmp 139) (.const (.bool false))),
 gv 141 (.mv (.tmp 140)),
 gw 142 141 true (.mv (.tmp 11)),
 gw 143 141 true (.mv (.tmp 12)),
 gw 144 141 true (.mv (.tmp 10)),
 gw 145 141 true (.mv (.tmp 1)),
 gw 146 141 true (.len false (.tmp 145)),
 gw 147 141 true (.call 39 [(.tmp 142),(.tmp 143),(.tmp 144),(.const (.int .i64 8)),(.tmp 146)]),
 gv 148 (.pick (.tmp 141) (.tmp 147) (.const (.bool false))),
 gv 8 (.mv (.tmp 148))]
def c6 : EFn:=⟨149,.seq (.reg c6r0) (.seq (.reg c6r1) (.seq (.join (.reg c6r2) (.cond (.tmp 33) (.seq (.reg c6r3) (.ret)) (.skip))) (.seq (.reg c6r4) (.seq (.reg c6r5) (.seq (.reg c6r6) (.seq (.reg c6r7) (.join (.reg c6r8) (.seq (.join (.reg c6r9) (.cond (.tmp 69) (.seq (.reg c6r10) (.ret)) (.skip))) (.join (.seq (.reg c6r11) (.block 0 (.loop c6l20))) (.seq (.reg c6r21) (.join (.seq (.reg c6r22) (.cond (.tmp 123) (.reg c6r23) (.skip))) (.seq (.reg c6r24) (.ret))))))))))))),[.tmp 8]⟩
theorem c6_ok : compF Tryz.prog 6=some c6.er:=by kernel_rfl
set_option maxHeartbeats 4000000 in
theorem law32_RegistryMoves_R {P:Program}(hP:P=Tryz.prog)(show_:Int)(l:(List Op))(which:Int)(place:Int)(r:Bool)(h:law32_RegistryMoves_g show_ l which place=some r):Fn1 P 6 [vIu8 show_,vLOp l,vIu8 which,vIi64 place] (vB r):=by
 refine .walkE (hP▸c6_ok) fun K hK=>?_;unfold law32_RegistryMoves_g at h;cbv;refine .g h (fun v hv=>law32_head_R hP v hv) aw_ rfl (fun _=>rfl) fun up1 h=>?_;cbv;refine .g h (fun (v2:Bool)=>[.d (.val (.int .u8 show_)),.d (.sl (W eOp l)),.d (.val (.int .u8 which)),oi place]++rp 5 .top++[ob up1]++rp 23 .top++[ob v2]++rp 115 .top) (fun v2=>[]) (fun y hm Kn1 hKn1=>?_) fun t h=>?_
 ·have h:=hm;clear hm;cbv;refine .g h (fun v hv=>law32_few_R hP _ v hv) aw_ rfl (fun _=>rfl) fun v3 h=>?_;cbv;refine brkG h ?_ ?_<;>intro h
  ·cbv;obtain rfl:=oj h;refine hKn1 _ _ _ rfl (.nz (.mtE [] ?_));(cbv;repeat (refine⟨an_,?_⟩;cbv))
  ·cbv;obtain rfl:=oj h;refine hKn1 _ _ _ rfl (.nz (.mtE [] ?_));(cbv;repeat (refine⟨an_,?_⟩;cbv))
 obtain⟨v2,rfl⟩:=ez t;cbv;refine brkG h ?_ ?_<;>intro h
 ·cbv;obtain rfl:=oj h;exact hK _ _ aw_
 ·cbv;refine .g h fun h=>?_;cbv;obtain⟨r4,hm,h⟩:=Option.bind_eq_some_iff.1 h;refine .embL [] (law32_played_R hP _ _ _ hm) (by (cbv;repeat (refine⟨an_,?_⟩;cbv))) fun sv0 own0 hq _=>?_;obtain⟨rfl,rfl⟩:=hq;clear hm;cbv;obtain⟨r5,hm,h⟩:=Option.bind_eq_some_iff.1 h;refine .embL [] (law32_played_R hP _ _ _ hm) (by (cbv;repeat (refine⟨an_,?_⟩;cbv))) fun sv0 own0 hq _=>?_;obtain⟨rfl,rfl⟩:=hq;clear hm;cbv;refine .g h fun h=>?_;cbv;refine .g h (fun ((Serial6,Show7,Place8,First9,Chain10,e11):Int×Int×Int×ByteArray×(List Transfer)×Int)=>[.top,.d (.sl (W eOp l)),.top,oi place]++rp 5 .top++[ob up1,oi (io.rem (io.wrap .i64 show_) 20),.ptr 0 0,.ptr 3 0,oi (io.ar .add .i64 (io.ar .add .i64 (io.ar .mul .i64 (io.ar .add .i64 (io.rem (io.wrap .i64 show_) 20) 1) 10000) 1) (io.rem (io.wrap .i64 which) (io.len (W eOp l)))),.ptr 6 0,.top,oi e11]++rp 132 .top) (fun (Serial6,Show7,Place8,First9,Chain10,e11)=>[.cells [oi r4.1,oi r4.2.1,.hd 1,.hd 2] 74,.mp (.int .i64) true (WM (Value.int .i64) eEntry r4.2.2.1),.mp (.int .i64) false (WM (Value.int .i64) eIi64 r4.2.2.2),.cells [oi r5.1,oi r5.2.1,.hd 4,.hd 5] 74,.mp (.int .i64) true (WM (Value.int .i64) eEntry r5.2.2.1),.mp (.int .i64) false (WM (Value.int .i64) eIi64 r5.2.2.2),.cells [oi Serial6,oi Show7,oi Place8,.d (.val (.string First9)),.d (.sl (W eTransfer Chain10))] 35]) (fun y hm Kn1 hKn1=>?_) fun t h=>?_
  ·have h:=hm;clear hm;cbv;obtain⟨r12,hm,h⟩:=Option.bind_eq_some_iff.1 h;refine .embL [0,1,2] (registry_Registry_Title_R hP _ _ _ _ _ _ hm) (by (cbv;repeat (refine⟨an_,?_⟩;cbv))) fun sv0 own0 hq _=>?_;obtain⟨rfl,rfl⟩:=hq;clear hm;cbv;obtain rfl:=oj h;refine hKn1 _ _ _ rfl (.nz (.mtE [0,1,2,3,4,5,6] ?_));(cbv;repeat (refine⟨an_,?_⟩;cbv))
  obtain⟨Serial6,Show7,Place8,First9,Chain10,e11⟩:=t;cbv;refine .g h (fun ((titles13,at14,v15):(List (Int×Entry))×(List (Int×Int))×Bool)=>[.top,.d (.sl (W eOp l)),.top,oi place]++rp 5 .top++[ob up1,oi (io.rem (io.wrap .i64 show_) 20),.ptr 0 0,.ptr 3 0,oi (io.ar .add .i64 (io.ar .add .i64 (io.ar .mul .i64 (io.ar .add .i64 (io.rem (io.wrap .i64 show_) 20) 1) 10000) 1) (io.rem (io.wrap .i64 which) (io.len (W eOp l)))),.ptr 6 0]++rp 54 .top++[ob v15]++rp 79 .top) (fun (titles13,at14,v15)=>[.cells [oi r4.1,oi r4.2.1,.hd 1,.hd 2] 74,.mp (.int .i64) true (WM (Value.int .i64) eEntry titles13),.mp (.int .i64) false (WM (Value.int .i64) eIi64 at14),.cells [oi r5.1,oi r5.2.1,.hd 4,.hd 5] 74,.mp (.int .i64) true (WM (Value.int .i64) eEntry r5.2.2.1),.mp (.int .i64) false (WM (Value.int .i64) eIi64 r5.2.2.2),.cells [oi Serial6,oi Show7,oi Place8,.d (.val (.string First9)),.d (.sl (W eTransfer Chain10))] 35]) (fun y hm Kn1 hKn1=>?_) fun t h=>?_
  ·have h:=hm;clear hm;cbv;refine brkG h ?_ ?_<;>intro h
   ·cbv;obtain rfl:=oj h;refine hKn1 _ _ _ rfl (.nz (.mtE [0,1,2,3,4,5,6] ?_));(cbv;repeat (refine⟨an_,?_⟩;cbv))
   ·cbv;obtain⟨r16,hm,h⟩:=Option.bind_eq_some_iff.1 h;refine .embL [0,1,2] (registry_Registry_Move_R hP _ _ _ _ _ _ _ hm) (by (cbv;repeat (refine⟨an_,?_⟩;cbv))) fun sv0 own0 hq _=>?_;obtain⟨rfl,rfl⟩:=hq;clear hm;cbv;obtain rfl:=oj h;refine hKn1 _ _ _ rfl (.nz (.mtE [0,1,2,3,4,5,6] ?_));(cbv;repeat (refine⟨an_,?_⟩;cbv))
  obtain⟨titles13,at14,v15⟩:=t;cbv;refine brkG h ?_ ?_<;>intro h
  ·cbv;refine brkG h ?_ ?_<;>intro h
   ·cbv;obtain⟨r17,hm,h⟩:=Option.bind_eq_some_iff.1 h;refine .embL [0,1,2,3,4,5] (law32_same_R hP _ _ _ _ _ _ _ _ _ _ _ _ hm) (by (cbv;repeat (refine⟨an_,?_⟩;cbv))) fun sv0 own0 hq _=>?_;obtain⟨rfl,rfl⟩:=hq;clear hm;cbv;obtain rfl:=oj h;exact hK _ _ aw_
   ·cbv;obtain rfl:=oj h;exact hK _ _ aw_
  ·cbv;refine .ga h (fun (_:Unit)=>[.top,.d (.sl (W eOp l)),.top,oi place]++rp 5 .top++[ob up1,oi (io.rem (io.wrap .i64 show_) 20),.ptr 0 0,.ptr 3 0,oi (io.ar .add .i64 (io.ar .add .i64 (io.ar .mul .i64 (io.ar .add .i64 (io.rem (io.wrap .i64 show_) 20) 1) 10000) 1) (io.rem (io.wrap .i64 which) (io.len (W eOp l)))),.ptr 6 0]++rp 134 .top) (fun _=>[.cells [oi r4.1,oi r4.2.1,.hd 1,.hd 2] 74,.mp (.int .i64) true (WM (Value.int .i64) eEntry titles13),.mp (.int .i64) false (WM (Value.int .i64) eIi64 at14),.cells [oi r5.1,oi r5.2.1,.hd 4,.hd 5] 74,.mp (.int .i64) true (WM (Value.int .i64) eEntry r5.2.2.1),.mp (.int .i64) false (WM (Value.int .i64) eIi64 r5.2.2.2),.cells [oi Serial6,oi Show7,oi Place8,.d (.val (.string First9)),.d (.sl (W eTransfer Chain10))] 35]) (fun y hm hr1 Kn1 hKn1=>?_) fun t h=>?_
   ·have h:=hm;clear hm;cbv;refine .g h (fun (k18:Int)=>[.top,.d (.sl (W eOp l)),.top,oi place]++rp 5 .top++[ob up1,oi (io.rem (io.wrap .i64 show_) 20),.ptr 0 0,.ptr 3 0,oi (io.ar .add .i64 (io.ar .add .i64 (io.ar .mul .i64 (io.ar .add .i64 (io.rem (io.wrap .i64 show_) 20) 1) 10000) 1) (io.rem (io.wrap .i64 which) (io.len (W eOp l)))),.ptr 6 0,.top,.top,oi k18]++rp 131 .top) (fun k18=>[.cells [oi r4.1,oi r4.2.1,.hd 1,.hd 2] 74,.mp (.int .i64) true (WM (Value.int .i64) eEntry titles13),.mp (.int .i64) false (WM (Value.int .i64) eIi64 at14),.cells [oi r5.1,oi r5.2.1,.hd 4,.hd 5] 74,.mp (.int .i64) true (WM (Value.int .i64) eEntry r5.2.2.1),.mp (.int .i64) false (WM (Value.int .i64) eIi64 r5.2.2.2),.cells [oi Serial6,oi Show7,oi Place8,.d (.val (.string First9)),.d (.sl (W eTransfer Chain10))] 35]) (.nz (.mtE [0,1,2,3,4,5,6] ?_)) fun s x h hr2 Kn2 hKn2=>?_
    ·(cbv;repeat (refine⟨an_,?_⟩;cbv))
    unfold law32_RegistryMoves_l2 at h;obtain⟨k18,rfl⟩:=ez s;cbv;refine brkG h ?_ ?_<;>intro h
    ·cbv;refine .g h (fun ((Serial19,Show20,Place21,First22,Chain23,g24):Int×Int×Int×ByteArray×(List Transfer)×Int)=>[.top,.d (.sl (W eOp l)),.top,oi place]++rp 5 .top++[ob up1,oi (io.rem (io.wrap .i64 show_) 20),.ptr 0 0,.ptr 3 0,oi (io.ar .add .i64 (io.ar .add .i64 (io.ar .mul .i64 (io.ar .add .i64 (io.rem (io.wrap .i64 show_) 20) 1) 10000) 1) (io.rem (io.wrap .i64 which) (io.len (W eOp l)))),.ptr 6 0,.top,.top,oi k18,.ptr 7 0,oi g24]++rp 129 .top) (fun (Serial19,Show20,Place21,First22,Chain23,g24)=>[.cells [oi r4.1,oi r4.2.1,.hd 1,.hd 2] 74,.mp (.int .i64) true (WM (Value.int .i64) eEntry titles13),.mp (.int .i64) false (WM (Value.int .i64) eIi64 at14),.cells [oi r5.1,oi r5.2.1,.hd 4,.hd 5] 74,.mp (.int .i64) true (WM (Value.int .i64) eEntry r5.2.2.1),.mp (.int .i64) false (WM (Value.int .i64) eIi64 r5.2.2.2),.cells [oi Serial6,oi Show7,oi Place8,.d (.val (.string First9)),.d (.sl (W eTransfer Chain10))] 35,.cells [oi Serial19,oi Show20,oi Place21,.d (.val (.string First22)),.d (.sl (W eTransfer Chain23))] 35]) (fun y hm Kn3 hKn3=>?_) fun t h=>?_
     ·have h:=hm;clear hm;cbv;obtain⟨r25,hm,h⟩:=Option.bind_eq_some_iff.1 h;refine .embL [0,1,2] (registry_Registry_Title_R hP _ _ _ _ _ _ hm) (by (cbv;repeat (refine⟨an_,?_⟩;cbv))) fun sv0 own0 hq _=>?_;obtain⟨rfl,rfl⟩:=hq;clear hm;cbv;obtain rfl:=oj h;refine hKn3 _ _ _ rfl (.nz (.mtE [0,1,2,3,4,5,6,7] ?_));(cbv;repeat (refine⟨an_,?_⟩;cbv))
     obtain⟨Serial19,Show20,Place21,First22,Chain23,g24⟩:=t;cbv;refine .g h (fun ((Serial26,Show27,Place28,First29,Chain30,h31):Int×Int×Int×ByteArray×(List Transfer)×Int)=>[.top,.d (.sl (W eOp l)),.top,oi place]++rp 5 .top++[ob up1,oi (io.rem (io.wrap .i64 show_) 20),.ptr 0 0,.ptr 3 0,oi (io.ar .add .i64 (io.ar .add .i64 (io.ar .mul .i64 (io.ar .add .i64 (io.rem (io.wrap .i64 show_) 20) 1) 10000) 1) (io.rem (io.wrap .i64 which) (io.len (W eOp l)))),.ptr 6 0,.top,.top,oi k18,.ptr 7 0,oi g24,.top,.ptr 8 0,oi h31]++rp 126 .top) (fun (Serial26,Show27,Place28,First29,Chain30,h31)=>[.cells [oi r4.1,oi r4.2.1,.hd 1,.hd 2] 74,.mp (.int .i64) true (WM (Value.int .i64) eEntry titles13),.mp (.int .i64) false (WM (Value.int .i64) eIi64 at14),.cells [oi r5.1,oi r5.2.1,.hd 4,.hd 5] 74,.mp (.int .i64) true (WM (Value.int .i64) eEntry r5.2.2.1),.mp (.int .i64) false (WM (Value.int .i64) eIi64 r5.2.2.2),.cells [oi Serial6,oi Show7,oi Place8,.d (.val (.string First9)),.d (.sl (W eTransfer Chain10))] 35,.cells [oi Serial19,oi Show20,oi Place21,.d (.val (.string First22)),.d (.sl (W eTransfer Chain23))] 35,.cells [oi Serial26,oi Show27,oi Place28,.d (.val (.string First29)),.d (.sl (W eTransfer Chain30))] 35]) (fun y hm Kn3 hKn3=>?_) fun t h=>?_
     ·have h:=hm;clear hm;cbv;obtain⟨r32,hm,h⟩:=Option.bind_eq_some_iff.1 h;refine .embL [3,4,5] (registry_Registry_Title_R hP _ _ _ _ _ _ hm) (by (cbv;repeat (refine⟨an_,?_⟩;cbv))) fun sv0 own0 hq _=>?_;obtain⟨rfl,rfl⟩:=hq;clear hm;cbv;obtain rfl:=oj h;refine hKn3 _ _ _ rfl (.nz (.mtE [0,1,2,3,4,5,6,7,8] ?_));(cbv;repeat (refine⟨an_,?_⟩;cbv))
     obtain⟨Serial26,Show27,Place28,First29,Chain30,h31⟩:=t;cbv;refine .g h (fun (Place33:Int)=>[.top,.d (.sl (W eOp l)),.top,oi place]++rp 5 .top++[ob up1,oi (io.rem (io.wrap .i64 show_) 20),.ptr 0 0,.ptr 3 0,oi (io.ar .add .i64 (io.ar .add .i64 (io.ar .mul .i64 (io.ar .add .i64 (io.rem (io.wrap .i64 show_) 20) 1) 10000) 1) (io.rem (io.wrap .i64 which) (io.len (W eOp l)))),.ptr 6 0,.top,.top,oi k18,.ptr 7 0,oi g24,.top,.ptr 8 0,oi h31]++rp 126 .top) (fun Place33=>[.cells [oi r4.1,oi r4.2.1,.hd 1,.hd 2] 74,.mp (.int .i64) true (WM (Value.int .i64) eEntry titles13),.mp (.int .i64) false (WM (Value.int .i64) eIi64 at14),.cells [oi r5.1,oi r5.2.1,.hd 4,.hd 5] 74,.mp (.int .i64) true (WM (Value.int .i64) eEntry r5.2.2.1),.mp (.int .i64) false (WM (Value.int .i64) eIi64 r5.2.2.2),.cells [oi Serial6,oi Show7,oi Place8,.d (.val (.string First9)),.d (.sl (W eTransfer Chain10))] 35,.cells [oi Serial19,oi Show20,oi Place21,.d (.val (.string First22)),.d (.sl (W eTransfer Chain23))] 35,.cells [oi Serial26,oi Show27,oi Place33,.d (.val (.string First29)),.d (.sl (W eTransfer Chain30))] 35]) (fun y hm Kn3 hKn3=>?_) fun t h=>?_
     ·have h:=hm;clear hm;cbv;refine brkG h ?_ ?_<;>intro h
      ·cbv;obtain rfl:=oj h;refine hKn3 _ _ _ rfl (.nz (.mtE [0,1,2,3,4,5,6,7,8] ?_));(cbv;repeat (refine⟨an_,?_⟩;cbv))
      ·cbv;obtain rfl:=oj h;refine hKn3 _ _ _ rfl (.nz (.mtE [0,1,2,3,4,5,6,7,8] ?_));(cbv;repeat (refine⟨an_,?_⟩;cbv))
     obtain⟨Place33,rfl⟩:=ez t;cbv;refine .g h (fun (v34:Bool)=>[.top,.d (.sl (W eOp l)),.top,oi place]++rp 5 .top++[ob up1,oi (io.rem (io.wrap .i64 show_) 20),.ptr 0 0,.ptr 3 0,oi (io.ar .add .i64 (io.ar .add .i64 (io.ar .mul .i64 (io.ar .add .i64 (io.rem (io.wrap .i64 show_) 20) 1) 10000) 1) (io.rem (io.wrap .i64 which) (io.len (W eOp l)))),.ptr 6 0,.top,.top,oi k18]++rp 103 .top++[ob v34]++rp 27 .top) (fun v34=>[.cells [oi r4.1,oi r4.2.1,.hd 1,.hd 2] 74,.mp (.int .i64) true (WM (Value.int .i64) eEntry titles13),.mp (.int .i64) false (WM (Value.int .i64) eIi64 at14),.cells [oi r5.1,oi r5.2.1,.hd 4,.hd 5] 74,.mp (.int .i64) true (WM (Value.int .i64) eEntry r5.2.2.1),.mp (.int .i64) false (WM (Value.int .i64) eIi64 r5.2.2.2),.cells [oi Serial6,oi Show7,oi Place8,.d (.val (.string First9)),.d (.sl (W eTransfer Chain10))] 35]) (fun y hm Kn3 hKn3=>?_) fun t h=>?_
     ·have h:=hm;clear hm;cbv;refine brkG h ?_ ?_<;>intro h
      ·cbv;obtain rfl:=oj h;refine hKn3 _ _ _ rfl (.nz (.mtE [0,1,2,3,4,5,6] ?_));(cbv;repeat (refine⟨an_,?_⟩;cbv))
      ·cbv;refine .g h (fun v hv=>ref30_Same_R hP _ _ v hv) aw_ rfl (fun _=>rfl) fun v35 h=>?_;cbv;obtain rfl:=oj h;refine hKn3 _ _ _ rfl (.nz (.mtE [0,1,2,3,4,5,6] ?_));(cbv;repeat (refine⟨an_,?_⟩;cbv))
     obtain⟨v34,rfl⟩:=ez t;cbv;refine brkG h ?_ ?_<;>intro h
     ·cbv;obtain rfl:=oj h;obtain rfl:=hr2 _ rfl;obtain rfl:=hr1 _ rfl;exact hK _ _ aw_
     ·cbv;obtain rfl:=oj h;refine hKn2 _ _ _ rfl (.nz (.mtE [0,1,2,3,4,5,6] ?_));(cbv;repeat (refine⟨an_,?_⟩;cbv))
    ·cbv;obtain rfl:=oj h;obtain rfl:=hr2 _ rfl;refine hKn1 _ _ _ rfl (.nz (.mtE [0,1,2,3,4,5,6] ?_));(cbv;repeat (refine⟨an_,?_⟩;cbv))
   cbv;refine .g h (fun (at36:Int)=>[.top,.d (.sl (W eOp l)),.top,oi place]++rp 5 .top++[ob up1,oi (io.rem (io.wrap .i64 show_) 20),.ptr 0 0,.ptr 3 0,oi (io.ar .add .i64 (io.ar .add .i64 (io.ar .mul .i64 (io.ar .add .i64 (io.rem (io.wrap .i64 show_) 20) 1) 10000) 1) (io.rem (io.wrap .i64 which) (io.len (W eOp l)))),.ptr 6 0]++rp 9 .top++[oi at36]++rp 124 .top) (fun at36=>[.cells [oi r4.1,oi r4.2.1,.hd 1,.hd 2] 74,.mp (.int .i64) true (WM (Value.int .i64) eEntry titles13),.mp (.int .i64) false (WM (Value.int .i64) eIi64 at14),.cells [oi r5.1,oi r5.2.1,.hd 4,.hd 5] 74,.mp (.int .i64) true (WM (Value.int .i64) eEntry r5.2.2.1),.mp (.int .i64) false (WM (Value.int .i64) eIi64 r5.2.2.2),.cells [oi Serial6,oi Show7,oi Place8,.d (.val (.string First9)),.d (.sl (W eTransfer Chain10))] 35]) (fun y hm Kn1 hKn1=>?_) fun t h=>?_
   ·have h:=hm;clear hm;cbv;refine brkG h ?_ ?_<;>intro h
    ·cbv;obtain rfl:=oj h;refine hKn1 _ _ _ rfl (.nz (.mtE [0,1,2,3,4,5,6] ?_));(cbv;repeat (refine⟨an_,?_⟩;cbv))
    ·cbv;obtain rfl:=oj h;refine hKn1 _ _ _ rfl (.nz (.mtE [0,1,2,3,4,5,6] ?_));(cbv;repeat (refine⟨an_,?_⟩;cbv))
   obtain⟨at36,rfl⟩:=ez t;cbv;refine brkG h ?_ ?_<;>intro h
   ·cbv;obtain⟨r37,hm,h⟩:=Option.bind_eq_some_iff.1 h;refine .embL [0,1,2] (registry_Registry_At_R hP _ _ _ _ _ _ hm) (by (cbv;repeat (refine⟨an_,?_⟩;cbv))) fun sv0 own0 hq _=>?_;obtain⟨rfl,rfl⟩:=hq;clear hm;cbv;refine brkG h ?_ ?_<;>intro h
    ·cbv;obtain⟨r38,hm,h⟩:=Option.bind_eq_some_iff.1 h;refine .embL [0,1,2] (registry_Registry_Move_R hP _ _ _ _ _ _ _ hm) (by (cbv;repeat (refine⟨an_,?_⟩;cbv))) fun sv0 own0 hq _=>?_;obtain⟨rfl,rfl⟩:=hq;clear hm;cbv;refine brkG h ?_ ?_<;>intro h
     ·cbv;obtain⟨r39,hm,h⟩:=Option.bind_eq_some_iff.1 h;refine .embL [0,1,2,3,4,5] (law32_same_R hP _ _ _ _ _ _ _ _ _ _ _ _ hm) (by (cbv;repeat (refine⟨an_,?_⟩;cbv))) fun sv0 own0 hq _=>?_;obtain⟨rfl,rfl⟩:=hq;clear hm;cbv;obtain rfl:=oj h;exact hK _ _ aw_
     ·cbv;obtain rfl:=oj h;exact hK _ _ aw_
    ·cbv;obtain rfl:=oj h;exact hK _ _ aw_
   ·cbv;obtain rfl:=oj h;exact hK _ _ aw_
end Go.SX.Rg
namespace Go.SX.Rg
open Go Go.SX Go.Proofs
set_option maxRecDepth 100000
def c7r0 : List GOp:=[
 gv 5 (.box 32 (.tmp 2)),
 gv 6 (.mv (.const (.bool false)))]
def c7r1 : List GOp:=[
 gv 13 (.call 9 []),
 gv 7 (.mv (.tmp 13))]
def c7r2 : List GOp:=[
 gv 14 (.bslice 32 5 0 (.agg #[oz,oz,oz,(.string ⟨#[]⟩),(.slice none 0 0)]) []),
 gv 15 (.mv (.tmp 1)),
 gv 16 (.app 32 5 64 (.agg #[oz,oz,oz,(.string ⟨#[]⟩),(.slice none 0 0)]) (.tmp 14) (.tmp 15)),
 gv 17 (.load 5 true (.tmp 5)),
 gv 18 (.bslice 32 5 1 (.agg #[oz,oz,oz,(.string ⟨#[]⟩),(.slice none 0 0)]) [(0,(.tmp 17))])]
def c7r2z : List GOp:=[
 gv 19 (.app 32 5 64 (.agg #[oz,oz,oz,(.string ⟨#[]⟩),(.slice none 0 0)]) (.tmp 16) (.tmp 18)),
 gv 20 (.call 10 [(.tmp 19)]),
 gv 21 (.un .not (.tmp 20))]
def c7r3 : List GOp:=[
 gv 22 (.mv (.tmp 7)),
 gv 6 (.mv (.tmp 22))]
def c7r4 : List GOp:=[
 gv 23 (.mv (.tmp 0)),
 gv 24 (.cvi .i64 (.tmp 23)),
 gv 25 (.div .rem (.tmp 24) (.const (.int .i64 20))),
 gv 8 (.mv (.tmp 25))]
def c7r5 : List GOp:=[
 gv 26 (.mv (.tmp 0)),
 gv 27 (.mv (.tmp 1)),
 gv 28 (.call 29 [(.tmp 26),(.tmp 27)]),
 gv 9 (.mv (.tmp 28))]
def c7r6 : List GOp:=[
 gv 29 (.mv (.tmp 0)),
 gv 30 (.mv (.tmp 1)),
 gv 31 (.call 29 [(.tmp 29),(.tmp 30)]),
 gv 10 (.mv (.tmp 31))]
def c7r7 : List GOp:=[
 gv 33 (.mv (.tmp 9)),
 gv 34 (.load 5 true (.tmp 5)),
 gv 35 (.mv (.tmp 1)),
 gv 36 (.call 13 [(.tmp 35)]),
 gv 37 (.call 15 [(.tmp 33),(.tmp 34),(.tmp 36)]),
 gv 32 (.mv (.tmp 37)),
 gv 38 (.ext (.tmp 32) 0),
 gv 39 (.ext (.tmp 32) 1),
 gv 11 (.mv (.tmp 38))]
def c7r7z : List GOp:=[
 gv 12 (.mv (.tmp 39))]
def c7r8 : List GOp:=[
 gv 40 (.mv (.tmp 12)),
 gv 41 (.bin .neq (.tmp 40) (.const (.int .i64 0))),
 gv 42 (.mv (.tmp 41)),
 gw 43 42 true (.mv (.tmp 9)),
 gw 44 42 true (.mv (.tmp 10)),
 gw 45 42 true (.mv (.tmp 8)),
 gw 46 42 true (.mv (.tmp 1)),
 gw 47 42 true (.len false (.tmp 46)),
 gw 48 42 true (.bin .add (.tmp 47) (.const (.int .i64 1))),
 gw 49 42 true (.call 39 [(.tmp 43),(.tmp 44),(.tmp 45),(.const (.int .i64 8)),(.tmp 48)]),
 gw 50 42 true (.un .not (.tmp 49)),
 gv 51 (.pick (.tmp 42) (.tmp 50) (.const (.bool false)))]
def c7r9 : List GOp:=[
 gv 6 (.mv (.const (.bool false)))]
def c7r10 : List GOp:=[
 gv 52 (.fadd 0 (.tmp 5)),
 gv 53 (.load 1 false (.tmp 52)),
 gv 54 (.bin .neq (.tmp 53) (.const (.int .i64 0))),
 gv 55 (.mv (.tmp 54)),
 gw 56 55 false (.fadd 2 (.tmp 5)),
 gw 57 55 false (.load 1 false (.tmp 56)),
 gw 58 55 false (.bin .lss (.tmp 57) (.const (.int .i64 0))),
 gv 59 (.pick (.tmp 55) (.const (.bool true)) (.tmp 58)),
 gv 60 (.mv (.tmp 59)),
 gw 61 60 false (.fadd 2 (.tmp 5)),
 gw 62 60 false (.load 1 false (.tmp 61)),
 gw 63 60 false (.bin .geq (.tmp 62) (.const (.int .i64 8))),
 gv 64 (.pick (.tmp 60) (.const (.bool true)) (.tmp 63)),
 gv 65 (.mv (.tmp 64)),
 gw 66 65 false (.fadd 3 (.tmp 5)),
 gw 67 65 false (.load 1 false (.tmp 66)),
 gw 68 65 false (.bin .neq (.tmp 67) (.const (.string ⟨#[]⟩))),
 gw 69 65 false (.mv (.tmp 68)),
 gw 70 69 true (.fadd 3 (.tmp 5)),
 gw 71 69 true (.load 1 false (.tmp 70)),
 gw 72 69 true (.call 40 [(.tmp 71)]),
 gw 73 69 true (.un .not (.tmp 72)),
 gw 74 65 false (.pick (.tmp 69) (.tmp 73) (.const (.bool false))),
 gv 75 (.pick (.tmp 65) (.const (.bool true)) (.tmp 74))]
def c7r11 : List GOp:=[
 gv 76 (.mv (.tmp 7)),
 gv 77 (.mv (.tmp 76)),
 gw 78 77 true (.fadd 0 (.tmp 5)),
 gw 79 77 true (.load 1 false (.tmp 78)),
 gw 80 77 true (.bin .neq (.tmp 79) (.const (.int .i64 0))),
 gw 81 77 true (.mv (.tmp 80)),
 gw 82 81 false (.mv (.tmp 12)),
 gw 83 81 false (.bin .eql (.tmp 82) (.const (.int .i64 1))),
 gw 84 77 true (.pick (.tmp 81) (.const (.bool true)) (.tmp 83)),
 gv 85 (.pick (.tmp 77) (.tmp 84) (.const (.bool false))),
 gv 6 (.mv (.tmp 85))]
def c7r12 : List GOp:=[
 gv 86 (.mv (.tmp 7)),
 gv 87 (.mv (.tmp 86)),
 gw 88 87 true (.mv (.tmp 12)),
 gw 89 87 true (.bin .eql (.tmp 88) (.const (.int .i64 16))),
 gw 90 87 true (.mv (.tmp 10)),
 gw 91 87 true (.fadd 2 (.tmp 5)),
 gw 92 87 true (.load 1 false (.tmp 91)),
 gw 93 87 true (.call 25 [(.tmp 90),(.tmp 92)]),
 gw 94 87 true (.bin .neq (.tmp 93) (.const (.int .i64 0))),
 gw 95 87 true (.beq false [] (.tmp 89) (.tmp 94)),
 gv 96 (.pick (.tmp 87) (.tmp 95) (.const (.bool false))),
 gv 97 (.mv (.tmp 96)),
 gw 98 97 true (.mv (.tmp 12)),
 gw 99 97 true (.bin .eql (.tmp 98) (.const (.int .i64 0))),
 gw 100 97 true (.mv (.tmp 99)),
 gw 101 100 false (.mv (.tmp 12)),
 gw 102 100 false (.bin .eql (.tmp 101) (.const (.int .i64 16))),
 gw 103 97 true (.pick (.tmp 100) (.const (.bool true)) (.tmp 102)),
 gv 104 (.pick (.tmp 97) (.tmp 103) (.const (.bool false))),
 gv 6 (.mv (.tmp 104))]
def c7 : EFn:=⟨105,.seq (.reg c7r0) (.seq (.reg c7r1) (.seq (.seq (.eff false false false [0,2] c7r2 c7r2z) (.cond (.tmp 21) (.seq (.reg c7r3) (.ret)) (.skip))) (.seq (.reg c7r4) (.seq (.reg c7r5) (.seq (.reg c7r6) (.join (.eff false false false [4] c7r7 c7r7z) (.seq (.join (.reg c7r8) (.cond (.tmp 51) (.seq (.reg c7r9) (.ret)) (.skip))) (.seq (.join (.reg c7r10) (.cond (.tmp 75) (.seq (.reg c7r11) (.ret)) (.skip))) (.seq (.reg c7r12) (.ret)))))))))),[.tmp 6]⟩
theorem c7_ok : compF Tryz.prog 7=some c7.er:=by kernel_rfl
set_option maxHeartbeats 4000000 in
theorem law32_RegistryRefuses_R {P:Program}(hP:P=Tryz.prog)(show_:Int)(l:(List Op))(x_:Op)(r:Bool)(h:law32_RegistryRefuses_g show_ l x_=some r):Fn1 P 7 [vIu8 show_,vLOp l,vOp x_] (vB r):=by
 refine .walkE (hP▸c7_ok) fun K hK=>?_;unfold law32_RegistryRefuses_g at h;cbv;refine .g h (fun v hv=>law32_head_R hP v hv) aw_ rfl (fun _=>rfl) fun up1 h=>?_;cbv;refine .gx [] 1 ?_;cbv;refine⟨.of (by (cbv;repeat (first | exact trivial | refine⟨by first | rfl | trivial,?_⟩))),?_⟩;cbv;refine .g0H h rfl (fun _=>rfl) (by decide) fun l2 h=>?_;cbv;refine⟨.of (by (cbv;repeat (first | exact trivial | refine⟨by first | rfl | trivial,?_⟩))),?_⟩;cbv;refine .g (e:=eOp) h (W_cons aw_ (W_nil' _)) fun l3 h=>?_;cbv;refine .gH h rfl (fun _=>rfl) (by decide) fun l4 h=>?_;cbv;refine .gl [] h (fun v hv=>law32_few_R hP _ v hv) aw_ rfl fun v5 h=>?_;cbv;refine brkG h ?_ ?_<;>intro h
 ·cbv;obtain rfl:=oj h;exact hK _ _ aw_
 ·cbv;refine .g h fun h=>?_;cbv;obtain⟨r6,hm,h⟩:=Option.bind_eq_some_iff.1 h;refine .embL [] (law32_played_R hP _ _ _ hm) (by (cbv;repeat (refine⟨an_,?_⟩;cbv))) fun sv0 own0 hq _=>?_;obtain⟨rfl,rfl⟩:=hq;clear hm;cbv;obtain⟨r7,hm,h⟩:=Option.bind_eq_some_iff.1 h;refine .embL [] (law32_played_R hP _ _ _ hm) (by (cbv;repeat (refine⟨an_,?_⟩;cbv))) fun sv0 own0 hq _=>?_;obtain⟨rfl,rfl⟩:=hq;clear hm;cbv;refine .g h (fun ((titles8,at9,e10):(List (Int×Entry))×(List (Int×Int))×Int)=>[.top,.d (.sl (W eOp l))]++rp 3 .top++[.ptr 0 0,.top,ob up1,oi (io.rem (io.wrap .i64 show_) 20),.ptr 1 0,.ptr 4 0,.top,oi e10]++rp 92 .top) (fun (titles8,at9,e10)=>[.cells [oi x_.Kind,oi x_.Serial,oi x_.At,.d (.val (.string x_.Key)),.d (.sl (W eS x_.Sig))] 32,.cells [oi r6.1,oi r6.2.1,.hd 2,.hd 3] 74,.mp (.int .i64) true (WM (Value.int .i64) eEntry titles8),.mp (.int .i64) false (WM (Value.int .i64) eIi64 at9),.cells [oi r7.1,oi r7.2.1,.hd 5,.hd 6] 74,.mp (.int .i64) true (WM (Value.int .i64) eEntry r7.2.2.1),.mp (.int .i64) false (WM (Value.int .i64) eIi64 r7.2.2.2)]) (fun y hm Kn1 hKn1=>?_) fun t h=>?_
  ·have h:=hm;clear hm;cbv;refine .gx [4,5,6] 10 ?_;cbv;refine .g h (fun v hv=>law32_secrets_R hP _ v hv) aw_ rfl (fun _=>rfl) fun v11 h=>?_;cbv;obtain⟨r12,hm,h⟩:=Option.bind_eq_some_iff.1 h;refine .emb [4,5,6] (law32_do_R hP _ _ _ _ _ _ _ hm) (by (cbv;repeat (refine⟨an_,?_⟩;cbv))) ?_;clear hm;cbv;refine⟨.of (by (cbv;repeat (first | exact trivial | refine⟨by first | rfl | trivial,?_⟩))),?_⟩;cbv;obtain rfl:=oj h;refine hKn1 _ _ _ rfl (.nz (.mtE [0,4,5,6,7,8,9] ?_));(cbv;repeat (refine⟨an_,?_⟩;cbv))
  obtain⟨titles8,at9,e10⟩:=t;cbv;refine .g h (fun (v13:Bool)=>rp 5 .top++[.ptr 0 0,.top,ob up1,.top,.top,.ptr 1 0,.top,oi e10]++rp 38 .top++[ob v13]++rp 53 .top) (fun v13=>[.cells [oi x_.Kind,oi x_.Serial,oi x_.At,.d (.val (.string x_.Key)),.d (.sl (W eS x_.Sig))] 32,.cells [oi r7.1,oi r7.2.1,.hd 2,.hd 3] 74,.mp (.int .i64) true (WM (Value.int .i64) eEntry r7.2.2.1),.mp (.int .i64) false (WM (Value.int .i64) eIi64 r7.2.2.2)]) (fun y hm Kn1 hKn1=>?_) fun t h=>?_
  ·have h:=hm;clear hm;cbv;refine brkG h ?_ ?_<;>intro h
   ·cbv;obtain⟨r14,hm,h⟩:=Option.bind_eq_some_iff.1 h;refine .embL [1,2,3,4,5,6] (law32_same_R hP _ _ _ _ _ _ _ _ _ _ _ _ hm) (by (cbv;repeat (refine⟨an_,?_⟩;cbv))) fun sv0 own0 hq _=>?_;obtain⟨rfl,rfl⟩:=hq;clear hm;cbv;obtain rfl:=oj h;refine hKn1 _ _ _ rfl (.nz (.mtE [0,4,5,6] ?_));(cbv;repeat (refine⟨an_,?_⟩;cbv))
   ·cbv;obtain rfl:=oj h;refine hKn1 _ _ _ rfl (.nz (.mtE [0,4,5,6] ?_));(cbv;repeat (refine⟨an_,?_⟩;cbv))
  obtain⟨v13,rfl⟩:=ez t;cbv;refine brkG h ?_ ?_<;>intro h
  ·cbv;obtain rfl:=oj h;exact hK _ _ aw_
  ·cbv;refine .g h (fun (v15:Bool)=>rp 5 .top++[.ptr 0 0,.top,ob up1,.top,.top,.ptr 1 0,.top,oi e10]++rp 62 .top++[ob v15]++rp 29 .top) (fun v15=>[.cells [oi x_.Kind,oi x_.Serial,oi x_.At,.d (.val (.string x_.Key)),.d (.sl (W eS x_.Sig))] 32,.cells [oi r7.1,oi r7.2.1,.hd 2,.hd 3] 74,.mp (.int .i64) true (WM (Value.int .i64) eEntry r7.2.2.1),.mp (.int .i64) false (WM (Value.int .i64) eIi64 r7.2.2.2)]) (fun y hm Kn1 hKn1=>?_) fun t h=>?_
   ·have h:=hm;clear hm;cbv;refine brkG h ?_ ?_<;>intro h
    ·cbv;obtain rfl:=oj h;refine hKn1 _ _ _ rfl (.nz (.mtE [0,1,2,3] ?_));(cbv;repeat (refine⟨an_,?_⟩;cbv))
    ·cbv;refine brkG h ?_ ?_<;>intro h
     ·cbv;obtain rfl:=oj h;refine hKn1 _ _ _ rfl (.nz (.mtE [0,1,2,3] ?_));(cbv;repeat (refine⟨an_,?_⟩;cbv))
     ·cbv;refine brkG h ?_ ?_<;>intro h
      ·cbv;obtain rfl:=oj h;refine hKn1 _ _ _ rfl (.nz (.mtE [0,1,2,3] ?_));(cbv;repeat (refine⟨an_,?_⟩;cbv))
      ·cbv;refine brkG h ?_ ?_<;>intro h
       ·cbv;refine .g h (fun v hv=>ref02_Is_R hP _ v hv) aw_ rfl (fun _=>rfl) fun v16 h=>?_;cbv;obtain rfl:=oj h;refine hKn1 _ _ _ rfl (.nz (.mtE [0,1,2,3] ?_));(cbv;repeat (refine⟨an_,?_⟩;cbv))
       ·cbv;obtain rfl:=oj h;refine hKn1 _ _ _ rfl (.nz (.mtE [0,1,2,3] ?_));(cbv;repeat (refine⟨an_,?_⟩;cbv))
   obtain⟨v15,rfl⟩:=ez t;cbv;refine brkG h ?_ ?_<;>intro h
   ·cbv;refine brkG h ?_ ?_<;>intro h
    ·cbv;refine brkG h ?_ ?_<;>intro h
     ·cbv;obtain rfl:=oj h;exact hK _ _ aw_
     ·cbv;obtain rfl:=oj h;exact hK _ _ aw_
    ·cbv;obtain rfl:=oj h;exact hK _ _ aw_
   ·cbv;refine brkG h ?_ ?_<;>intro h
    ·cbv;obtain⟨r17,hm,h⟩:=Option.bind_eq_some_iff.1 h;refine .embL [1,2,3] (registry_Registry_At_R hP _ _ _ _ _ _ hm) (by (cbv;repeat (refine⟨an_,?_⟩;cbv))) fun sv0 own0 hq _=>?_;obtain⟨rfl,rfl⟩:=hq;clear hm;cbv;refine brkG h ?_ ?_<;>intro h
     ·cbv;refine brkG h ?_ ?_<;>intro h
      ·cbv;obtain rfl:=oj h;exact hK _ _ aw_
      ·cbv;obtain rfl:=oj h;exact hK _ _ aw_
     ·cbv;obtain rfl:=oj h;exact hK _ _ aw_
    ·cbv;obtain rfl:=oj h;exact hK _ _ aw_
end Go.SX.Rg
