/- Parts of the proof. -/
import Derived.Test.YtlpempbeenpilaaGreatDoorZRgT
import Derived.Test.YtlpempbeenpilaaGreatDoorZRg46d
import Derived.Test.YtlpempbeenpilaaGreatDoorZRg33d
import Derived.Test.YtlpempbeenpilaaGreatDoorZRg53
import Derived.Test.YtlpempbeenpilaaGreatDoorZRg44d
import Derived.Test.YtlpempbeenpilaaGreatDoorZRg9
import Derived.Test.YtlpempbeenpilaaGreatDoorZRgH9
set_option linter.unusedSimpArgs false
set_option linter.unusedVariables false
set_option linter.unusedSectionVars false
namespace Go.SX.Rg
open Go Go.SX Go.Proofs
set_option maxRecDepth 100000
def c8r0 : List GOp:=[
 gv 4 (.mv (.const (.bool false)))]
def c8r1 : List GOp:=[
 gv 19 (.call 9 []),
 gv 5 (.mv (.tmp 19))]
def c8r2 : List GOp:=[
 gv 20 (.mv (.tmp 1)),
 gv 21 (.call 10 [(.tmp 20)]),
 gv 22 (.un .not (.tmp 21))]
def c8r3 : List GOp:=[
 gv 23 (.mv (.tmp 5)),
 gv 4 (.mv (.tmp 23))]
def c8r4 : List GOp:=[
 gv 24 (.mv (.tmp 0)),
 gv 25 (.cvi .i64 (.tmp 24)),
 gv 26 (.div .rem (.tmp 25) (.const (.int .i64 20))),
 gv 6 (.mv (.tmp 26))]
def c8r5 : List GOp:=[
 gv 27 (.mv (.tmp 6)),
 gv 28 (.call 11 [(.tmp 27),(.const (.int .i64 8))]),
 gv 7 (.mv (.tmp 28))]
def c8r6 : List GOp:=[
 gv 29 (.mv (.tmp 1)),
 gv 30 (.call 13 [(.tmp 29)]),
 gv 8 (.mv (.tmp 30))]
def c8r7 : List GOp:=[
 gv 9 (.mv (.const (.slice none 0 0)))]
def c8r8 : List GOp:=[
 gv 10 (.mv (.const (.slice none 0 0)))]
def c8r9 : List GOp:=[
 gv 11 (.mv (.const (.int .i64 0)))]
def c8r10 : List GOp:=[
 gv 31 (.mv (.tmp 11)),
 gv 32 (.mv (.tmp 1)),
 gv 33 (.len false (.tmp 32)),
 gv 34 (.bin .lss (.tmp 31) (.tmp 33))]
def c8r11 : List GOp:=[
 gv 37 (.mv (.tmp 7)),
 gv 38 (.mv (.tmp 1)),
 gv 39 (.mv (.tmp 11)),
 gv 40 (.idxA 5 (.tmp 38) (.tmp 39)),
 gv 41 (.load 5 true (.tmp 40)),
 gv 42 (.mv (.tmp 8)),
 gv 43 (.call 15 [(.tmp 37),(.tmp 41),(.tmp 42)])]
def c8r12 : List GOp:=[
 gv 12 (.mv (.const (.slice none 0 0)))]
def c8r13 : List GOp:=[
 gv 13 (.mv (.const (.slice none 0 0)))]
def c8r14 : List GOp:=[
 gv 14 (.mv (.const (.int .i64 1)))]
def c8r15 : List GOp:=[
 gv 44 (.mv (.tmp 14)),
 gv 45 (.mv (.tmp 11)),
 gv 46 (.bin .add (.tmp 45) (.const (.int .i64 1))),
 gv 47 (.bin .leq (.tmp 44) (.tmp 46))]
def c8r16 : List GOp:=[
 gv 51 (.mv (.tmp 7)),
 gv 52 (.mv (.tmp 6)),
 gv 53 (.bin .add (.tmp 52) (.const (.int .i64 1))),
 gv 54 (.bin .mul (.tmp 53) (.const (.int .i64 10000))),
 gv 55 (.mv (.tmp 14)),
 gv 56 (.bin .add (.tmp 54) (.tmp 55)),
 gv 57 (.call 14 [(.tmp 51),(.tmp 56)]),
 gv 50 (.mv (.tmp 57)),
 gv 58 (.ext (.tmp 50) 0),
 gv 59 (.ext (.tmp 50) 1),
 gv 60 (.ext (.tmp 50) 2),
 gv 15 (.alloc 35 (.agg #[oz,oz,oz,(.string ⟨#[]⟩),(.slice none 0 0)])),
 ⟨none,.store 5 (.tmp 15) (.tmp 58),none⟩,
 gv 16 (.mv (.tmp 59)),
 gv 17 (.mv (.tmp 60))]
def c8r17 : List GOp:=[
 gv 61 (.mv (.tmp 17)),
 gv 62 (.bin .neq (.tmp 61) (.const (.int .i64 0)))]
def c8r18 : List GOp:=[
 gv 63 (.mv (.tmp 12)),
 gv 64 (.load 5 true (.tmp 15)),
 gv 65 (.bslice 35 5 1 (.agg #[oz,oz,oz,(.string ⟨#[]⟩),(.slice none 0 0)]) [(0,(.tmp 64))]),
 gv 66 (.app 35 5 64 (.agg #[oz,oz,oz,(.string ⟨#[]⟩),(.slice none 0 0)]) (.tmp 63) (.tmp 65)),
 gv 12 (.mv (.tmp 66))]
def c8r19 : List GOp:=[
 gv 67 (.mv (.tmp 13)),
 gv 68 (.mv (.tmp 16)),
 gv 69 (.bslice 3 1 1 oz [(0,(.tmp 68))]),
 gv 70 (.app 3 1 8 oz (.tmp 67) (.tmp 69)),
 gv 13 (.mv (.tmp 70))]
def c8r20 : List GOp:=[
 gv 48 (.mv (.tmp 14)),
 gv 49 (.bin .add (.tmp 48) (.const (.int .i64 1))),
 gv 14 (.mv (.tmp 49))]
def c8l21 : DE:=.seq (.seq (.reg c8r15) (.cond (.tmp 47) (.skip) (.exit 2))) (.seq (.block 3 (.join (.reg c8r16) (.seq (.seq (.reg c8r17) (.cond (.tmp 62) (.exit 2) (.skip))) (.seq (.reg c8r18) (.reg c8r19))))) (.reg c8r20))
def c8r22 : List GOp:=[
 gv 71 (.mv (.tmp 12)),
 gv 72 (.len false (.tmp 71)),
 gv 73 (.mv (.tmp 9)),
 gv 74 (.len false (.tmp 73)),
 gv 75 (.bin .lss (.tmp 72) (.tmp 74))]
def c8r23 : List GOp:=[
 gv 4 (.mv (.const (.bool false)))]
def c8r24 : List GOp:=[
 gv 18 (.mv (.const (.int .i64 0)))]
def c8r25 : List GOp:=[
 gv 76 (.mv (.tmp 18)),
 gv 77 (.mv (.tmp 12)),
 gv 78 (.len false (.tmp 77)),
 gv 79 (.bin .lss (.tmp 76) (.tmp 78))]
def c8r26 : List GOp:=[
 gv 82 (.mv (.tmp 12)),
 gv 83 (.mv (.tmp 18)),
 gv 84 (.idxA 5 (.tmp 82) (.tmp 83)),
 gv 85 (.load 5 true (.tmp 84)),
 gv 86 (.call 41 [(.tmp 85)]),
 gv 87 (.un .not (.tmp 86)),
 gv 88 (.mv (.tmp 87)),
 gw 89 88 false (.mv (.tmp 18)),
 gw 90 88 false (.mv (.tmp 9)),
 gw 91 88 false (.len false (.tmp 90)),
 gw 92 88 false (.bin .lss (.tmp 89) (.tmp 91)),
 gw 93 88 false (.mv (.tmp 92)),
 gw 94 93 true (.mv (.tmp 12)),
 gw 95 93 true (.mv (.tmp 18)),
 gw 96 93 true (.idxA 5 (.tmp 94) (.tmp 95)),
 gw 97 93 true (.load 5 true (.tmp 96)),
 gw 98 93 true (.mv (.tmp 9)),
 gw 99 93 true (.mv (.tmp 18)),
 gw 100 93 true (.idxA 5 (.tmp 98) (.tmp 99)),
 gw 101 93 true (.load 5 true (.tmp 100)),
 gw 102 93 true (.call 42 [(.tmp 97),(.tmp 101)]),
 gw 103 93 true (.un .not (.tmp 102)),
 gw 104 93 true (.mv (.tmp 103)),
 gw 105 104 false (.mv (.tmp 12)),
 gw 106 104 false (.mv (.tmp 18)),
 gw 107 104 false (.idxA 5 (.tmp 105) (.tmp 106)),
 gw 108 104 false (.fadd 4 (.tmp 107)),
 gw 109 104 false (.load 1 false (.tmp 108)),
 gw 110 104 false (.len false (.tmp 109)),
 gw 111 104 false (.mv (.tmp 9)),
 gw 112 104 false (.mv (.tmp 18)),
 gw 113 104 false (.idxA 5 (.tmp 111) (.tmp 112)),
 gw 114 104 false (.fadd 4 (.tmp 113)),
 gw 115 104 false (.load 1 false (.tmp 114)),
 gw 116 104 false (.len false (.tmp 115)),
 gw 117 104 false (.bin .add (.tmp 116) (.const (.int .i64 1))),
 gw 118 104 false (.bin .gtr (.tmp 110) (.tmp 117)),
 gw 119 93 true (.pick (.tmp 104) (.const (.bool true)) (.tmp 118)),
 gw 120 93 true (.mv (.tmp 119)),
 gw 121 120 false (.mv (.tmp 10)),
 gw 122 120 false (.mv (.tmp 18)),
 gw 123 120 false (.idxA 1 (.tmp 121) (.tmp 122)),
 gw 124 120 false (.load 1 false (.tmp 123)),
 gw 125 120 false (.bin .gtr (.tmp 124) (.const (.int .i64 0))),
 gw 126 120 false (.mv (.tmp 125)),
 gw 127 126 true (.mv (.tmp 13)),
 gw 128 126 true (.mv (.tmp 18)),
 gw 129 126 true (.idxA 1 (.tmp 127) (.tmp 128)),
 gw 130 126 true (.load 1 false (.tmp 129)),
 gw 131 126 true (.mv (.tmp 10)),
 gw 132 126 true (.mv (.tmp 18)),
 gw 133 126 true (.idxA 1 (.tmp 131) (.tmp 132)),
 gw 134 126 true (.load 1 false (.tmp 133)),
 gw 135 126 true (.bin .neq (.tmp 130) (.tmp 134)),
 gw 136 126 true (.mv (.tmp 135)),
 gw 137 136 false (.mv (.tmp 12)),
 gw 138 136 false (.mv (.tmp 18)),
 gw 139 136 false (.idxA 5 (.tmp 137) (.tmp 138)),
 gw 140 136 false (.load 5 true (.tmp 139)),
 gw 141 136 false (.mv (.tmp 9)),
 gw 142 136 false (.mv (.tmp 18)),
 gw 143 136 false (.idxA 5 (.tmp 141) (.tmp 142)),
 gw 144 136 false (.load 5 true (.tmp 143)),
 gw 145 136 false (.call 28 [(.tmp 140),(.tmp 144)]),
 gw 146 136 false (.un .not (.tmp 145)),
 gw 147 126 true (.pick (.tmp 136) (.const (.bool true)) (.tmp 146)),
 gw 148 120 false (.pick (.tmp 126) (.tmp 147) (.const (.bool false))),
 gw 149 93 true (.pick (.tmp 120) (.const (.bool true)) (.tmp 148)),
 gw 150 88 false (.pick (.tmp 93) (.tmp 149) (.const (.bool false))),
 gv 151 (.pick (.tmp 88) (.const (.bool true)) (.tmp 150))]
def c8r27 : List GOp:=[
 gv 4 (.mv (.const (.bool false)))]
def c8r28 : List GOp:=[
 gv 80 (.mv (.tmp 18)),
 gv 81 (.bin .add (.tmp 80) (.const (.int .i64 1))),
 gv 18 (.mv (.tmp 81))]
def c8l29 : DE:=.seq (.seq (.reg c8r25) (.cond (.tmp 79) (.skip) (.exit 4))) (.seq (.block 5 (.join (.par false false false true 63 c8r26) (.cond (.tmp 151) (.seq (.reg c8r27) (.ret)) (.skip)))) (.reg c8r28))
def c8r30 : List GOp:=[
 gv 152 (.mv (.tmp 12)),
 gv 9 (.mv (.tmp 152))]
def c8r31 : List GOp:=[
 gv 153 (.mv (.tmp 13)),
 gv 10 (.mv (.tmp 153))]
def c8r32 : List GOp:=[
 gv 35 (.mv (.tmp 11)),
 gv 36 (.bin .add (.tmp 35) (.const (.int .i64 1))),
 gv 11 (.mv (.tmp 36))]
def c8l33 : DE:=.seq (.seq (.reg c8r10) (.cond (.tmp 34) (.skip) (.exit 0))) (.join (.block 1 (.join (.reg c8r11) (.seq (.reg c8r12) (.seq (.reg c8r13) (.join (.seq (.reg c8r14) (.block 2 (.loop c8l21))) (.seq (.seq (.reg c8r22) (.cond (.tmp 75) (.seq (.reg c8r23) (.ret)) (.skip))) (.join (.seq (.reg c8r24) (.block 4 (.loop c8l29))) (.seq (.reg c8r30) (.reg c8r31))))))))) (.reg c8r32))
def c8r34 : List GOp:=[
 gv 154 (.mv (.tmp 5)),
 gv 4 (.mv (.tmp 154))]
def c8 : EFn:=⟨155,.seq (.reg c8r0) (.seq (.reg c8r1) (.seq (.seq (.reg c8r2) (.cond (.tmp 22) (.seq (.reg c8r3) (.ret)) (.skip))) (.seq (.reg c8r4) (.seq (.reg c8r5) (.seq (.reg c8r6) (.seq (.reg c8r7) (.seq (.reg c8r8) (.join (.seq (.reg c8r9) (.block 0 (.loop c8l33))) (.seq (.reg c8r34) (.ret)))))))))),[.tmp 4]⟩
theorem c8_ok : compF Tryz.prog 8=some c8.er:=by kernel_rfl
set_option maxHeartbeats 4000000 in
theorem law32_RegistryChains_R {P:Program}(hP:P=Tryz.prog)(show_:Int)(l:(List Op))(r:Bool)(h:law32_RegistryChains_g show_ l=some r):Fn1 P 8 [vIu8 show_,vLOp l] (vB r):=by
 refine .walkE (hP▸c8_ok) fun K hK=>?_;unfold law32_RegistryChains_g at h;cbv;refine .g h (fun v hv=>law32_head_R hP v hv) aw_ rfl (fun _=>rfl) fun up1 h=>?_;cbv;refine .g h (fun v hv=>law32_few_R hP _ v hv) aw_ rfl (fun _=>rfl) fun v2 h=>?_;cbv;refine brkG h ?_ ?_<;>intro h
 ·cbv;obtain rfl:=oj h;exact hK _ _ aw_
 ·cbv;refine .g h fun h=>?_;cbv;obtain⟨hb,h⟩:=optN_ok h;refine .emb [] (registry_New_ok hP _ _ hb) (by (cbv;repeat (refine⟨an_,?_⟩;cbv))) fun sv0 own0 hq _=>?_;obtain⟨rfl,rfl⟩:=hq
  clear hb
  cbv;refine .g h (fun v hv=>law32_secrets_R hP _ v hv) aw_ rfl (fun _=>rfl) fun known3 h=>?_;cbv;refine .ga h (fun (_:Unit)=>rp 5 .top++[ob up1]++rp 149 .top) (fun _=>[]) (fun y hm hr1 Kn1 hKn1=>?_) fun t h=>?_
  ·have h:=hm;clear hm;cbv;refine .g h (fun ((titles4,at5,old6,gone7,ix8):(List (Int×Entry))×(List (Int×Int))×(List Title)×(List Int)×Int)=>[.top,.d (.sl (W eOp l))]++rp 3 .top++[ob up1,oi (io.rem (io.wrap .i64 show_) 20),.ptr 0 0,.d (.sl (W eS known3)),.hd 3,.hd 4,oi ix8]++rp 143 .top) (fun (titles4,at5,old6,gone7,ix8)=>[.cells [oi (io.rem (io.wrap .i64 show_) 20),oi 8,.hd 1,.hd 2] 74,.mp (.int .i64) true (WM (Value.int .i64) eEntry titles4),.mp (.int .i64) false (WM (Value.int .i64) eIi64 at5),.row 35 5 (W eTitle old6),.row 3 1 (W eIi64 gone7)]) (.nilr 9 35 5 rfl (.nilr 10 3 1 rfl (.nz (.mtE [0,1,2,3,4] ?_)))) fun s x h hr2 Kn2 hKn2=>?_
   ·(cbv;repeat (refine⟨an_,?_⟩;cbv))
   unfold law32_RegistryChains_l42 at h;obtain⟨titles4,at5,old6,gone7,ix8⟩:=s;cbv;refine brkG h ?_ ?_<;>intro h
   ·cbv;refine .ga h (fun ((titles9,at10,old11,gone12):(List (Int×Entry))×(List (Int×Int))×(List Title)×(List Int))=>[.top,.d (.sl (W eOp l))]++rp 3 .top++[ob up1,oi (io.rem (io.wrap .i64 show_) 20),.ptr 0 0,.d (.sl (W eS known3)),.hd 3,.hd 4,oi ix8]++rp 143 .top) (fun (titles9,at10,old11,gone12)=>[.cells [oi (io.rem (io.wrap .i64 show_) 20),oi 8,.hd 1,.hd 2] 74,.mp (.int .i64) true (WM (Value.int .i64) eEntry titles9),.mp (.int .i64) false (WM (Value.int .i64) eIi64 at10),.row 35 5 (W eTitle old11),.row 3 1 (W eIi64 gone12)]) (fun y hm hr3 Kn3 hKn3=>?_) fun t h=>?_
    ·have h:=hm;clear hm;cbv;refine .g h (fun ((titles13,at14):(List (Int×Entry))×(List (Int×Int)))=>[.top,.d (.sl (W eOp l))]++rp 3 .top++[ob up1,oi (io.rem (io.wrap .i64 show_) 20),.ptr 0 0,.d (.sl (W eS known3)),.hd 3,.hd 4,oi ix8]++rp 143 .top) (fun (titles13,at14)=>[.cells [oi (io.rem (io.wrap .i64 show_) 20),oi 8,.hd 1,.hd 2] 74,.mp (.int .i64) true (WM (Value.int .i64) eEntry titles13),.mp (.int .i64) false (WM (Value.int .i64) eIi64 at14),.row 35 5 (W eTitle old6),.row 3 1 (W eIi64 gone7)]) (fun y hm Kn4 hKn4=>?_) fun t h=>?_
     ·have h:=hm;clear hm;cbv;refine .g h (fun _=>rfl) fun x15 h=>?_;cbv;obtain⟨r16,hm,h⟩:=Option.bind_eq_some_iff.1 h;refine .embL [0,1,2] (law32_do_R hP _ _ _ _ _ _ _ hm) (by (cbv;repeat (refine⟨an_,?_⟩;cbv))) fun sv0 own0 hq _=>?_;obtain⟨rfl,rfl⟩:=hq;clear hm;cbv;obtain rfl:=oj h;refine hKn4 _ _ _ rfl (.nz (.mtE [0,1,2,3,4] ?_));(cbv;repeat (refine⟨an_,?_⟩;cbv))
     obtain⟨titles13,at14⟩:=t;cbv;refine .g h (fun ((now17,since18):(List Title)×(List Int))=>[.top,.d (.sl (W eOp l))]++rp 3 .top++[ob up1,oi (io.rem (io.wrap .i64 show_) 20),.ptr 0 0,.d (.sl (W eS known3)),.hd 3,.hd 4,oi ix8,.hd 5,.hd 6]++rp 141 .top) (fun (now17,since18)=>[.cells [oi (io.rem (io.wrap .i64 show_) 20),oi 8,.hd 1,.hd 2] 74,.mp (.int .i64) true (WM (Value.int .i64) eEntry titles13),.mp (.int .i64) false (WM (Value.int .i64) eIi64 at14),.row 35 5 (W eTitle old6),.row 3 1 (W eIi64 gone7),.row 35 5 (W eTitle now17),.row 3 1 (W eIi64 since18)]) (fun y hm Kn4 hKn4=>?_) fun t h=>?_
     ·have h:=hm;clear hm;cbv;refine .g h (fun ((now19,since20,k21):(List Title)×(List Int)×Int)=>[.top,.d (.sl (W eOp l))]++rp 3 .top++[ob up1,oi (io.rem (io.wrap .i64 show_) 20),.ptr 0 0,.d (.sl (W eS known3)),.hd 3,.hd 4,oi ix8,.hd 5,.hd 6,oi k21]++rp 140 .top) (fun (now19,since20,k21)=>[.cells [oi (io.rem (io.wrap .i64 show_) 20),oi 8,.hd 1,.hd 2] 74,.mp (.int .i64) true (WM (Value.int .i64) eEntry titles13),.mp (.int .i64) false (WM (Value.int .i64) eIi64 at14),.row 35 5 (W eTitle old6),.row 3 1 (W eIi64 gone7),.row 35 5 (W eTitle now19),.row 3 1 (W eIi64 since20)]) (.nilr 12 35 5 rfl (.nilr 13 3 1 rfl (.nz (.mtE [0,1,2,3,4,5,6] ?_)))) fun s x h hr5 Kn5 hKn5=>?_
      ·(cbv;repeat (refine⟨an_,?_⟩;cbv))
      unfold law32_RegistryChains_l48 at h;obtain⟨now19,since20,k21⟩:=s;cbv;refine brkG h ?_ ?_<;>intro h
      ·cbv;refine .g h (fun ((Serial22,Show23,Place24,First25,Chain26,g27,e28):Int×Int×Int×ByteArray×(List Transfer)×Int×Int)=>[.top,.d (.sl (W eOp l))]++rp 3 .top++[ob up1,oi (io.rem (io.wrap .i64 show_) 20),.ptr 0 0,.d (.sl (W eS known3)),.hd 3,.hd 4,oi ix8,.hd 5,.hd 6,oi k21,.ptr 7 0,oi g27,oi e28]++rp 137 .top) (fun (Serial22,Show23,Place24,First25,Chain26,g27,e28)=>[.cells [oi (io.rem (io.wrap .i64 show_) 20),oi 8,.hd 1,.hd 2] 74,.mp (.int .i64) true (WM (Value.int .i64) eEntry titles13),.mp (.int .i64) false (WM (Value.int .i64) eIi64 at14),.row 35 5 (W eTitle old6),.row 3 1 (W eIi64 gone7),.row 35 5 (W eTitle now19),.row 3 1 (W eIi64 since20),.cells [oi Serial22,oi Show23,oi Place24,.d (.val (.string First25)),.d (.sl (W eTransfer Chain26))] 35]) (fun y hm Kn6 hKn6=>?_) fun t h=>?_
       ·have h:=hm;clear hm;cbv;obtain⟨r29,hm,h⟩:=Option.bind_eq_some_iff.1 h;refine .embL [0,1,2] (registry_Registry_Title_R hP _ _ _ _ _ _ hm) (by (cbv;repeat (refine⟨an_,?_⟩;cbv))) fun sv0 own0 hq _=>?_;obtain⟨rfl,rfl⟩:=hq;clear hm;cbv;obtain rfl:=oj h;refine hKn6 _ _ _ rfl (.nz (.mtE [0,1,2,3,4,5,6,7] ?_));(cbv;repeat (refine⟨an_,?_⟩;cbv))
       obtain⟨Serial22,Show23,Place24,First25,Chain26,g27,e28⟩:=t;cbv;refine brkG h ?_ ?_<;>intro h
       ·cbv;obtain rfl:=oj h;obtain rfl:=hr5 _ rfl;refine hKn4 _ _ _ rfl (.nz (.mtE [0,1,2,3,4,5,6] ?_));(cbv;repeat (refine⟨an_,?_⟩;cbv))
       ·cbv;refine .g (e:=eTitle) h (W_cons aw_ (W_nil' _)) fun l30 h=>?_;cbv;refine .g h rfl (fun _=>rfl) (by decide) fun now31 h=>?_;cbv;refine .g (e:=eIi64) h (W_cons aw_ (W_nil' _)) fun l32 h=>?_;cbv;refine .g h rfl (fun _=>rfl) (by decide) fun since33 h=>?_;cbv;obtain rfl:=oj h;refine hKn5 _ _ _ rfl (.nz (.mtE [0,1,2,3,4,9,11] ?_));(cbv;repeat (refine⟨an_,?_⟩;cbv))
      ·cbv;obtain rfl:=oj h;obtain rfl:=hr5 _ rfl;refine hKn4 _ _ _ rfl (.nz (.mtE [0,1,2,3,4,5,6] ?_));(cbv;repeat (refine⟨an_,?_⟩;cbv))
     obtain⟨now17,since18⟩:=t;cbv;refine brkG h ?_ ?_<;>intro h
     ·cbv;obtain rfl:=oj h;obtain rfl:=hr3 _ rfl;obtain rfl:=hr2 _ rfl;obtain rfl:=hr1 _ rfl;exact hK _ _ aw_
     ·cbv;refine .ga h (fun (_:Unit)=>[.top,.d (.sl (W eOp l))]++rp 3 .top++[ob up1,oi (io.rem (io.wrap .i64 show_) 20),.ptr 0 0,.d (.sl (W eS known3)),.top,.top,oi ix8,.hd 3,.hd 4]++rp 141 .top) (fun _=>[.cells [oi (io.rem (io.wrap .i64 show_) 20),oi 8,.hd 1,.hd 2] 74,.mp (.int .i64) true (WM (Value.int .i64) eEntry titles13),.mp (.int .i64) false (WM (Value.int .i64) eIi64 at14),.row 35 5 (W eTitle now17),.row 3 1 (W eIi64 since18)]) (fun y hm hr4 Kn4 hKn4=>?_) fun t h=>?_
      ·have h:=hm;clear hm;cbv;refine .g h (fun (k34:Int)=>[.top,.d (.sl (W eOp l))]++rp 3 .top++[ob up1,oi (io.rem (io.wrap .i64 show_) 20),.ptr 0 0,.d (.sl (W eS known3)),.hd 3,.hd 4,oi ix8,.hd 5,.hd 6]++rp 4 .top++[oi k34]++rp 136 .top) (fun k34=>[.cells [oi (io.rem (io.wrap .i64 show_) 20),oi 8,.hd 1,.hd 2] 74,.mp (.int .i64) true (WM (Value.int .i64) eEntry titles13),.mp (.int .i64) false (WM (Value.int .i64) eIi64 at14),.row 35 5 (W eTitle old6),.row 3 1 (W eIi64 gone7),.row 35 5 (W eTitle now17),.row 3 1 (W eIi64 since18)]) (.nz (.mtE [0,1,2,3,4,5,6] ?_)) fun s x h hr5 Kn5 hKn5=>?_
       ·(cbv;repeat (refine⟨an_,?_⟩;cbv))
       unfold law32_RegistryChains_l50 at h;obtain⟨k34,rfl⟩:=ez s;cbv;refine brkG h ?_ ?_<;>intro h
       ·cbv;refine .g h (fun (v35:Bool)=>[.top,.d (.sl (W eOp l))]++rp 3 .top++[ob up1,oi (io.rem (io.wrap .i64 show_) 20),.ptr 0 0,.d (.sl (W eS known3)),.hd 3,.hd 4,oi ix8,.hd 5,.hd 6]++rp 4 .top++[oi k34]++rp 132 .top++[ob v35]++rp 3 .top) (fun v35=>[.cells [oi (io.rem (io.wrap .i64 show_) 20),oi 8,.hd 1,.hd 2] 74,.mp (.int .i64) true (WM (Value.int .i64) eEntry titles13),.mp (.int .i64) false (WM (Value.int .i64) eIi64 at14),.row 35 5 (W eTitle old6),.row 3 1 (W eIi64 gone7),.row 35 5 (W eTitle now17),.row 3 1 (W eIi64 since18)]) (fun y hm Kn6 hKn6=>?_) fun t h=>?_
        ·have h:=hm;clear hm;cbv;refine .g h fun i36 h=>?_;cbv;refine .g h fun v37 h=>?_;cbv;refine .g h (fun v hv=>title_Valid_R hP _ v hv) aw_ rfl (fun _=>rfl) fun v38 h=>?_;cbv;refine brkG h ?_ ?_<;>intro h
         ·cbv;obtain rfl:=oj h;refine hKn6 _ _ _ rfl (.nz (.mtE [0,1,2,3,4,5,6] ?_));(cbv;repeat (refine⟨an_,?_⟩;cbv))
         ·cbv;refine brkG h ?_ ?_<;>intro h
          ·cbv;refine .g h fun i39 h=>?_;cbv;refine .g h fun v40 h=>?_;cbv;refine .g h fun i41 h=>?_;cbv;refine .g h fun v42 h=>?_;cbv;refine .g h (fun v hv=>title_Extends_R hP _ _ v hv) aw_ rfl (fun _=>rfl) fun v43 h=>?_;cbv;refine brkG h ?_ ?_<;>intro h
           ·cbv;obtain rfl:=oj h;refine hKn6 _ _ _ rfl (.nz (.mtE [0,1,2,3,4,5,6] ?_));(cbv;repeat (refine⟨an_,?_⟩;cbv))
           ·cbv;refine .g h fun i44 h=>?_;cbv;refine .g h fun v45 h=>?_;cbv;refine .g h fun i46 h=>?_;cbv;refine .g h fun v47 h=>?_;cbv;refine brkG h ?_ ?_<;>intro h
            ·cbv;obtain rfl:=oj h;refine hKn6 _ _ _ rfl (.nz (.mtE [0,1,2,3,4,5,6] ?_));(cbv;repeat (refine⟨an_,?_⟩;cbv))
            ·cbv;refine .g h fun i48 h=>?_;cbv;refine .g h fun v49 h=>?_;cbv;refine brkG h ?_ ?_<;>intro h
             ·cbv;refine .g h fun i50 h=>?_;cbv;refine .g h fun v51 h=>?_;cbv;refine .g h fun i52 h=>?_;cbv;refine .g h fun v53 h=>?_;cbv;refine brkG h ?_ ?_<;>intro h
              ·cbv;obtain rfl:=oj h;refine hKn6 _ _ _ rfl (.nz (.mtE [0,1,2,3,4,5,6] ?_));(cbv;repeat (refine⟨an_,?_⟩;cbv))
              ·cbv;refine .g h fun i54 h=>?_;cbv;refine .g h fun v55 h=>?_;cbv;refine .g h fun i56 h=>?_;cbv;refine .g h fun v57 h=>?_;cbv;refine .g h (fun v hv=>ref30_Same_R hP _ _ v hv) aw_ rfl (fun _=>rfl) fun v58 h=>?_;cbv;obtain rfl:=oj h;refine hKn6 _ _ _ rfl (.nz (.mtE [0,1,2,3,4,5,6] ?_));(cbv;repeat (refine⟨an_,?_⟩;cbv))
             ·cbv;obtain rfl:=oj h;refine hKn6 _ _ _ rfl (.nz (.mtE [0,1,2,3,4,5,6] ?_));(cbv;repeat (refine⟨an_,?_⟩;cbv))
          ·cbv;obtain rfl:=oj h;refine hKn6 _ _ _ rfl (.nz (.mtE [0,1,2,3,4,5,6] ?_));(cbv;repeat (refine⟨an_,?_⟩;cbv))
        obtain⟨v35,rfl⟩:=ez t;cbv;refine brkG h ?_ ?_<;>intro h
        ·cbv;obtain rfl:=oj h;obtain rfl:=hr5 _ rfl;obtain rfl:=hr4 _ rfl;obtain rfl:=hr3 _ rfl;obtain rfl:=hr2 _ rfl;obtain rfl:=hr1 _ rfl;exact hK _ _ aw_
        ·cbv;obtain rfl:=oj h;refine hKn5 _ _ _ rfl (.nz (.mtE [0,1,2,3,4,5,6] ?_));(cbv;repeat (refine⟨an_,?_⟩;cbv))
       ·cbv;obtain rfl:=oj h;obtain rfl:=hr5 _ rfl;refine hKn4 _ _ _ rfl (.nz (.mtE [0,1,2,5,6] ?_));(cbv;repeat (refine⟨an_,?_⟩;cbv))
      cbv;obtain rfl:=oj h;refine hKn3 _ _ _ rfl (.nz (.mtE [0,1,2,3,4] ?_));(cbv;repeat (refine⟨an_,?_⟩;cbv))
    obtain⟨titles9,at10,old11,gone12⟩:=t;cbv;obtain rfl:=oj h;refine hKn2 _ _ _ rfl (.nz (.mtE [0,1,2,3,4] ?_));(cbv;repeat (refine⟨an_,?_⟩;cbv))
   ·cbv;obtain rfl:=oj h;obtain rfl:=hr2 _ rfl;refine hKn1 _ _ _ rfl (.nz (.mtE [] ?_));(cbv;repeat (refine⟨an_,?_⟩;cbv))
  cbv;obtain rfl:=oj h;exact hK _ _ aw_
end Go.SX.Rg
