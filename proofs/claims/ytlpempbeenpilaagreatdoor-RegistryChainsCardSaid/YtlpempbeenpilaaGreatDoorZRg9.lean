/- Parts of the proof. -/
import Derived.Test.YtlpempbeenpilaaGreatDoorZRgT
import Derived.Test.YtlpempbeenpilaaGreatDoorZRg46d
import Derived.Test.YtlpempbeenpilaaGreatDoorZRg53
import Derived.Test.YtlpempbeenpilaaGreatDoorZRg30d
import Derived.Test.YtlpempbeenpilaaGreatDoorZRg33d
import Derived.Test.YtlpempbeenpilaaGreatDoorZRg44d
set_option linter.unusedSimpArgs false
set_option linter.unusedVariables false
set_option linter.unusedSectionVars false
namespace Go.SX.Rg
open Go Go.SX Go.Proofs
set_option maxRecDepth 100000
def c9r0 : List GOp:=[
 gv 0 (.mv (.const (.bool false)))]
def c9r1 : List GOp:=[
 gv 27 (.call 11 [(.const (.int .i64 2)),(.const (.int .i64 5))]),
 gv 1 (.mv (.tmp 27))]
def c9r2 : List GOp:=[
 gv 28 (.call 30 [(.const (.string ⟨#[107]⟩))]),
 gv 2 (.mv (.tmp 28))]
def c9r3 : List GOp:=[
 gv 30 (.mv (.tmp 1)),
 gv 31 (.mv (.tmp 2)),
 gv 32 (.call 43 [(.tmp 30),(.const (.int .i64 3)),(.tmp 31)]),
 gv 29 (.mv (.tmp 32)),
 gv 33 (.ext (.tmp 29) 0),
 gv 34 (.ext (.tmp 29) 1),
 gv 3 (.mv (.tmp 33)),
 gv 4 (.mv (.tmp 34))]
def c9r4 : List GOp:=[
 gv 36 (.mv (.tmp 1)),
 gv 37 (.call 44 [(.const (.string ⟨#[108]⟩))]),
 gv 38 (.call 43 [(.tmp 36),(.const (.int .i64 3)),(.tmp 37)]),
 gv 35 (.mv (.tmp 38)),
 gv 39 (.ext (.tmp 35) 0),
 gv 40 (.ext (.tmp 35) 1),
 gv 5 (.mv (.tmp 39)),
 gv 6 (.mv (.tmp 40))]
def c9r5 : List GOp:=[
 gv 41 (.mv (.tmp 1)),
 gv 42 (.call 25 [(.tmp 41),(.const (.int .i64 3))]),
 gv 7 (.mv (.tmp 42))]
def c9r6 : List GOp:=[
 gv 43 (.mv (.tmp 1)),
 gv 44 (.call 38 [(.tmp 43),(.const (.int .i64 30001)),(.const (.int .i64 4))]),
 gv 8 (.mv (.tmp 44))]
def c9r7 : List GOp:=[
 gv 46 (.mv (.tmp 1)),
 gv 47 (.call 44 [(.const (.string ⟨#[108]⟩))]),
 gv 48 (.call 43 [(.tmp 46),(.const (.int .i64 3)),(.tmp 47)]),
 gv 45 (.mv (.tmp 48)),
 gv 49 (.ext (.tmp 45) 0),
 gv 50 (.ext (.tmp 45) 1),
 gv 9 (.mv (.tmp 49)),
 gv 10 (.mv (.tmp 50))]
def c9r8 : List GOp:=[
 gv 52 (.mv (.tmp 1)),
 gv 53 (.call 14 [(.tmp 52),(.const (.int .i64 30001))]),
 gv 51 (.mv (.tmp 53)),
 gv 54 (.ext (.tmp 51) 0),
 gv 55 (.ext (.tmp 51) 1),
 gv 56 (.ext (.tmp 51) 2),
 gv 11 (.alloc 35 (.agg #[oz,oz,oz,(.string ⟨#[]⟩),(.slice none 0 0)])),
 ⟨none,.store 5 (.tmp 11) (.tmp 54),none⟩,
 gv 12 (.mv (.tmp 55)),
 gv 13 (.mv (.tmp 56))]
def c9r9 : List GOp:=[
 gv 58 (.load 5 true (.tmp 11)),
 gv 59 (.call 44 [(.const (.string ⟨#[109]⟩))]),
 gv 60 (.call 32 [(.tmp 58),(.tmp 59),(.const (.string ⟨#[107]⟩))]),
 gv 57 (.mv (.tmp 60)),
 gv 61 (.ext (.tmp 57) 0),
 gv 62 (.ext (.tmp 57) 1),
 gv 14 (.alloc 35 (.agg #[oz,oz,oz,(.string ⟨#[]⟩),(.slice none 0 0)])),
 ⟨none,.store 5 (.tmp 14) (.tmp 61),none⟩,
 gv 15 (.mv (.tmp 62))]
def c9r10 : List GOp:=[
 gv 63 (.mv (.tmp 15)),
 gv 64 (.bin .neq (.tmp 63) (.const (.int .i64 0))),
 gv 65 (.mv (.tmp 64)),
 gw 66 65 false (.fadd 4 (.tmp 14)),
 gw 67 65 false (.load 1 false (.tmp 66)),
 gw 68 65 false (.len false (.tmp 67)),
 gw 69 65 false (.bin .neq (.tmp 68) (.const (.int .i64 1))),
 gv 70 (.pick (.tmp 65) (.const (.bool true)) (.tmp 69))]
def c9r11 : List GOp:=[
 gv 0 (.mv (.const (.bool false)))]
def c9r12 : List GOp:=[
 gv 71 (.mv (.tmp 1)),
 gv 72 (.fadd 4 (.tmp 14)),
 gv 73 (.load 1 false (.tmp 72)),
 gv 74 (.idxA 2 (.tmp 73) (.const (.int .i64 0))),
 gv 75 (.load 2 true (.tmp 74)),
 gv 76 (.call 33 [(.tmp 71),(.const (.int .i64 30001)),(.tmp 75)]),
 gv 16 (.mv (.tmp 76))]
def c9r13 : List GOp:=[
 gv 77 (.mv (.tmp 1)),
 gv 78 (.fadd 4 (.tmp 14)),
 gv 79 (.load 1 false (.tmp 78)),
 gv 80 (.idxA 2 (.tmp 79) (.const (.int .i64 0))),
 gv 81 (.load 2 true (.tmp 80)),
 gv 82 (.call 33 [(.tmp 77),(.const (.int .i64 30001)),(.tmp 81)]),
 gv 17 (.mv (.tmp 82))]
def c9r14 : List GOp:=[
 gv 83 (.mv (.tmp 1)),
 gv 84 (.call 45 [(.tmp 83),(.const (.int .i64 30001)),(.const (.int .i64 100))]),
 gv 18 (.mv (.tmp 84))]
def c9r15 : List GOp:=[
 gv 85 (.mv (.tmp 1)),
 gv 86 (.call 45 [(.tmp 85),(.const (.int .i64 30001)),(.const (.int .i64 101))]),
 gv 19 (.mv (.tmp 86))]
def c9r16 : List GOp:=[
 gv 88 (.mv (.tmp 1)),
 gv 89 (.call 44 [(.const (.string ⟨#[109]⟩))]),
 gv 90 (.call 43 [(.tmp 88),(.const (.int .i64 4)),(.tmp 89)]),
 gv 87 (.mv (.tmp 90)),
 gv 91 (.ext (.tmp 87) 0),
 gv 92 (.ext (.tmp 87) 1),
 gv 20 (.mv (.tmp 91)),
 gv 21 (.mv (.tmp 92))]
def c9r17 : List GOp:=[
 gv 94 (.mv (.tmp 1)),
 gv 95 (.call 14 [(.tmp 94),(.const (.int .i64 30001))]),
 gv 93 (.mv (.tmp 95)),
 gv 96 (.ext (.tmp 93) 0),
 gv 97 (.ext (.tmp 93) 1),
 gv 98 (.ext (.tmp 93) 2),
 gv 22 (.alloc 35 (.agg #[oz,oz,oz,(.string ⟨#[]⟩),(.slice none 0 0)])),
 ⟨none,.store 5 (.tmp 22) (.tmp 96),none⟩,
 gv 23 (.mv (.tmp 97)),
 gv 24 (.mv (.tmp 98))]
def c9r18 : List GOp:=[
 gv 25 (.mv (.const (.pointer none)))]
def c9r19 : List GOp:=[
 gv 99 (.mv (.tmp 4)),
 gv 100 (.bin .eql (.tmp 99) (.const (.int .i64 0))),
 gv 101 (.mv (.tmp 100)),
 gw 102 101 true (.mv (.tmp 3)),
 gw 103 101 true (.bin .eql (.tmp 102) (.const (.int .i64 30001))),
 gv 104 (.pick (.tmp 101) (.tmp 103) (.const (.bool false))),
 gv 105 (.mv (.tmp 104)),
 gw 106 105 true (.mv (.tmp 6)),
 gw 107 105 true (.bin .eql (.tmp 106) (.const (.int .i64 16))),
 gv 108 (.pick (.tmp 105) (.tmp 107) (.const (.bool false))),
 gv 109 (.mv (.tmp 108)),
 gw 110 109 true (.mv (.tmp 7)),
 gw 111 109 true (.bin .eql (.tmp 110) (.const (.int .i64 30001))),
 gv 112 (.pick (.tmp 109) (.tmp 111) (.const (.bool false))),
 gv 113 (.mv (.tmp 112)),
 gw 114 113 true (.mv (.tmp 8)),
 gw 115 113 true (.bin .eql (.tmp 114) (.const (.int .i64 0))),
 gv 116 (.pick (.tmp 113) (.tmp 115) (.const (.bool false))),
 gv 117 (.mv (.tmp 116)),
 gw 118 117 true (.mv (.tmp 10)),
 gw 119 117 true (.bin .eql (.tmp 118) (.const (.int .i64 0))),
 gv 120 (.pick (.tmp 117) (.tmp 119) (.const (.bool false))),
 gv 121 (.mv (.tmp 120)),
 gw 122 121 true (.mv (.tmp 9)),
 gw 123 121 true (.bin .eql (.tmp 122) (.const (.int .i64 30002))),
 gv 124 (.pick (.tmp 121) (.tmp 123) (.const (.bool false))),
 gv 125 (.mv (.tmp 124)),
 gw 126 125 true (.mv (.tmp 13)),
 gw 127 125 true (.bin .eql (.tmp 126) (.const (.int .i64 0))),
 gv 128 (.pick (.tmp 125) (.tmp 127) (.const (.bool false))),
 gv 129 (.mv (.tmp 128)),
 gw 130 129 true (.fadd 2 (.tmp 11)),
 gw 131 129 true (.load 1 false (.tmp 130)),
 gw 132 129 true (.bin .eql (.tmp 131) (.const (.int .i64 4))),
 gv 133 (.pick (.tmp 129) (.tmp 132) (.const (.bool false))),
 gv 134 (.mv (.tmp 133)),
 gw 135 134 true (.mv (.tmp 16)),
 gw 136 134 true (.bin .eql (.tmp 135) (.const (.int .i64 0))),
 gv 137 (.pick (.tmp 134) (.tmp 136) (.const (.bool false))),
 gv 138 (.mv (.tmp 137)),
 gw 139 138 true (.mv (.tmp 17)),
 gw 140 138 true (.bin .eql (.tmp 139) (.const (.int .i64 20))),
 gv 141 (.pick (.tmp 138) (.tmp 140) (.const (.bool false))),
 gv 142 (.mv (.tmp 141)),
 gw 143 142 true (.mv (.tmp 18)),
 gw 144 142 true (.bin .eql (.tmp 143) (.const (.int .i64 0))),
 gv 145 (.pick (.tmp 142) (.tmp 144) (.const (.bool false))),
 gv 146 (.mv (.tmp 145)),
 gw 147 146 true (.mv (.tmp 19)),
 gw 148 146 true (.bin .eql (.tmp 147) (.const (.int .i64 27))),
 gv 149 (.pick (.tmp 146) (.tmp 148) (.const (.bool false))),
 gv 26 (.mv (.tmp 149))]
def c9r20 : List GOp:=[
 gv 150 (.mv (.tmp 26)),
 gv 151 (.mv (.tmp 150)),
 gw 152 151 true (.mv (.tmp 21)),
 gw 153 151 true (.bin .eql (.tmp 152) (.const (.int .i64 0))),
 gv 154 (.pick (.tmp 151) (.tmp 153) (.const (.bool false))),
 gv 155 (.mv (.tmp 154)),
 gw 156 155 true (.mv (.tmp 20)),
 gw 157 155 true (.bin .eql (.tmp 156) (.const (.int .i64 30003))),
 gv 158 (.pick (.tmp 155) (.tmp 157) (.const (.bool false))),
 gv 159 (.mv (.tmp 158)),
 gw 160 159 true (.mv (.tmp 24)),
 gw 161 159 true (.bin .eql (.tmp 160) (.const (.int .i64 0))),
 gv 162 (.pick (.tmp 159) (.tmp 161) (.const (.bool false))),
 gv 163 (.mv (.tmp 162)),
 gw 164 163 true (.mv (.tmp 23)),
 gw 165 163 true (.bin .eql (.tmp 164) (.const (.int .i64 100))),
 gv 166 (.pick (.tmp 163) (.tmp 165) (.const (.bool false))),
 gv 167 (.mv (.tmp 166)),
 gw 168 167 true (.load 5 true (.tmp 22)),
 gw 169 167 true (.call 35 [(.tmp 168)]),
 gw 170 167 true (.call 44 [(.const (.string ⟨#[109]⟩))]),
 gw 171 167 true (.bin .eql (.tmp 169) (.tmp 170)),
 gv 172 (.pick (.tmp 167) (.tmp 171) (.const (.bool false))),
 gv 173 (.mv (.tmp 172)),
 gw 174 173 true (.mv (.tmp 1)),
 gw 175 173 true (.call 23 [(.tmp 174)]),
 gw 176 173 true (.bslice 3 1 1 oz [(0,(.const (.int .i64 30001)))]),
 gw 177 173 true (.call 22 [(.tmp 175),(.tmp 176)]),
 gv 178 (.pick (.tmp 173) (.tmp 177) (.const (.bool false))),
 gv 179 (.mv (.tmp 178)),
 gw 180 179 true (.call 11 [(.const (.int .i64 20)),(.const (.int .i64 1))]),
 gw 181 179 true (.pnil false (.tmp 180)),
 gv 182 (.pick (.tmp 179) (.tmp 181) (.const (.bool false))),
 gv 183 (.mv (.tmp 182)),
 gw 184 183 true (.mv (.tmp 25)),
 gw 185 183 true (.call 45 [(.tmp 184),(.const (.int .i64 1)),(.const (.int .i64 1))]),
 gw 186 183 true (.bin .eql (.tmp 185) (.const (.int .i64 1))),
 gv 187 (.pick (.tmp 183) (.tmp 186) (.const (.bool false))),
 gv 0 (.mv (.tmp 187))]
def c9 : EFn:=⟨188,.seq (.reg c9r0) (.seq (.reg c9r1) (.seq (.reg c9r2) (.join (.reg c9r3) (.join (.reg c9r4) (.join (.reg c9r5) (.join (.reg c9r6) (.join (.reg c9r7) (.join (.reg c9r8) (.seq (.par false false false true 8 c9r9) (.seq (.join (.reg c9r10) (.cond (.tmp 70) (.seq (.reg c9r11) (.ret)) (.skip))) (.join (.reg c9r12) (.join (.reg c9r13) (.join (.reg c9r14) (.join (.reg c9r15) (.join (.reg c9r16) (.join (.reg c9r17) (.seq (.reg c9r18) (.join (.reg c9r19) (.seq (.reg c9r20) (.ret)))))))))))))))))))),[.tmp 0]⟩
theorem c9_ok : compF Tryz.prog 9=some c9.er:=by kernel_rfl
set_option maxHeartbeats 4000000 in
theorem law32_head_R {P:Program}(hP:P=Tryz.prog)(r:Bool)(h:law32_head_g=some r):Fn1 P 9 [] (vB r):=by
 refine .walkE (hP▸c9_ok) fun K hK=>?_;unfold law32_head_g at h;cbv;obtain⟨hb,h⟩:=optN_ok h;refine .emb [] (registry_New_ok hP _ _ hb) (by (cbv;repeat (refine⟨an_,?_⟩;cbv))) fun sv0 own0 hq _=>?_;obtain⟨rfl,rfl⟩:=hq
 clear hb
 cbv;refine .g h (fun v hv=>sign_Public_R hP _ v hv) aw_ rfl (fun _=>rfl) fun k1 h=>?_;cbv;refine .g h (fun ((titles2,at3,a4,e5):(List (Int×Entry))×(List (Int×Int))×Int×Int)=>[.top,.ptr 0 0,.top,oi a4,oi e5]++rp 183 .top) (fun (titles2,at3,a4,e5)=>[.cells [oi 2,oi 5,.hd 1,.hd 2] 74,.mp (.int .i64) true (WM (Value.int .i64) eEntry titles2),.mp (.int .i64) false (WM (Value.int .i64) eIi64 at3)]) (fun y hm Kn1 hKn1=>?_) fun t h=>?_
 ·have h:=hm;clear hm;cbv;obtain⟨r6,hm,h⟩:=Option.bind_eq_some_iff.1 h;refine .embL [0,1,2] (registry_Registry_Issue_R hP _ _ _ _ _ _ _ hm) (by (cbv;repeat (refine⟨an_,?_⟩;cbv))) fun sv0 own0 hq _=>?_;obtain⟨rfl,rfl⟩:=hq;clear hm;cbv;obtain rfl:=oj h;refine hKn1 _ _ _ rfl (.nz (.mtE [0,1,2] ?_));(cbv;repeat (refine⟨an_,?_⟩;cbv))
 obtain⟨titles2,at3,a4,e5⟩:=t;cbv;refine .g h (fun ((titles7,at8,f9):(List (Int×Entry))×(List (Int×Int))×Int)=>[.top,.ptr 0 0,.top,oi a4,oi e5,.top,oi f9]++rp 181 .top) (fun (titles7,at8,f9)=>[.cells [oi 2,oi 5,.hd 1,.hd 2] 74,.mp (.int .i64) true (WM (Value.int .i64) eEntry titles7),.mp (.int .i64) false (WM (Value.int .i64) eIi64 at8)]) (fun y hm Kn1 hKn1=>?_) fun t h=>?_
 ·have h:=hm;clear hm;cbv;refine .g h (fun v hv=>digest_Sum_R hP _ v hv) aw_ rfl (fun _=>rfl) fun v10 h=>?_;cbv;obtain⟨r11,hm,h⟩:=Option.bind_eq_some_iff.1 h;refine .embL [0,1,2] (registry_Registry_Issue_R hP _ _ _ _ _ _ _ hm) (by (cbv;repeat (refine⟨an_,?_⟩;cbv))) fun sv0 own0 hq _=>?_;obtain⟨rfl,rfl⟩:=hq;clear hm;cbv;obtain rfl:=oj h;refine hKn1 _ _ _ rfl (.nz (.mtE [0,1,2] ?_));(cbv;repeat (refine⟨an_,?_⟩;cbv))
 obtain⟨titles7,at8,f9⟩:=t;cbv;refine .g h (fun (at12:Int)=>[.top,.ptr 0 0,.top,oi a4,oi e5,.top,oi f9,oi at12]++rp 180 .top) (fun at12=>[.cells [oi 2,oi 5,.hd 1,.hd 2] 74,.mp (.int .i64) true (WM (Value.int .i64) eEntry titles7),.mp (.int .i64) false (WM (Value.int .i64) eIi64 at8)]) (fun y hm Kn1 hKn1=>?_) fun t h=>?_
 ·have h:=hm;clear hm;cbv;obtain⟨r13,hm,h⟩:=Option.bind_eq_some_iff.1 h;refine .embL [0,1,2] (registry_Registry_At_R hP _ _ _ _ _ _ hm) (by (cbv;repeat (refine⟨an_,?_⟩;cbv))) fun sv0 own0 hq _=>?_;obtain⟨rfl,rfl⟩:=hq;clear hm;cbv;obtain rfl:=oj h;refine hKn1 _ _ _ rfl (.nz (.mtE [0,1,2] ?_));(cbv;repeat (refine⟨an_,?_⟩;cbv))
 obtain⟨at12,rfl⟩:=ez t;cbv;refine .g h (fun ((titles14,at15,g16):(List (Int×Entry))×(List (Int×Int))×Int)=>[.top,.ptr 0 0,.top,oi a4,oi e5,.top,oi f9,oi at12,oi g16]++rp 179 .top) (fun (titles14,at15,g16)=>[.cells [oi 2,oi 5,.hd 1,.hd 2] 74,.mp (.int .i64) true (WM (Value.int .i64) eEntry titles14),.mp (.int .i64) false (WM (Value.int .i64) eIi64 at15)]) (fun y hm Kn1 hKn1=>?_) fun t h=>?_
 ·have h:=hm;clear hm;cbv;obtain⟨r17,hm,h⟩:=Option.bind_eq_some_iff.1 h;refine .embL [0,1,2] (registry_Registry_Move_R hP _ _ _ _ _ _ _ hm) (by (cbv;repeat (refine⟨an_,?_⟩;cbv))) fun sv0 own0 hq _=>?_;obtain⟨rfl,rfl⟩:=hq;clear hm;cbv;obtain rfl:=oj h;refine hKn1 _ _ _ rfl (.nz (.mtE [0,1,2] ?_));(cbv;repeat (refine⟨an_,?_⟩;cbv))
 obtain⟨titles14,at15,g16⟩:=t;cbv;refine .g h (fun ((titles18,at19,b20,h21):(List (Int×Entry))×(List (Int×Int))×Int×Int)=>[.top,.ptr 0 0,.top,oi a4,oi e5,.top,oi f9,oi at12,oi g16,oi b20,oi h21]++rp 177 .top) (fun (titles18,at19,b20,h21)=>[.cells [oi 2,oi 5,.hd 1,.hd 2] 74,.mp (.int .i64) true (WM (Value.int .i64) eEntry titles18),.mp (.int .i64) false (WM (Value.int .i64) eIi64 at19)]) (fun y hm Kn1 hKn1=>?_) fun t h=>?_
 ·have h:=hm;clear hm;cbv;refine .g h (fun v hv=>digest_Sum_R hP _ v hv) aw_ rfl (fun _=>rfl) fun v22 h=>?_;cbv;obtain⟨r23,hm,h⟩:=Option.bind_eq_some_iff.1 h;refine .embL [0,1,2] (registry_Registry_Issue_R hP _ _ _ _ _ _ _ hm) (by (cbv;repeat (refine⟨an_,?_⟩;cbv))) fun sv0 own0 hq _=>?_;obtain⟨rfl,rfl⟩:=hq;clear hm;cbv;obtain rfl:=oj h;refine hKn1 _ _ _ rfl (.nz (.mtE [0,1,2] ?_));(cbv;repeat (refine⟨an_,?_⟩;cbv))
 obtain⟨titles18,at19,b20,h21⟩:=t;cbv;refine .g h (fun ((Serial24,Show25,Place26,First27,Chain28,i29):Int×Int×Int×ByteArray×(List Transfer)×Int)=>[.top,.ptr 0 0,.top,oi a4,oi e5,.top,oi f9,oi at12,oi g16,oi b20,oi h21,.ptr 3 0,.top,oi i29]++rp 174 .top) (fun (Serial24,Show25,Place26,First27,Chain28,i29)=>[.cells [oi 2,oi 5,.hd 1,.hd 2] 74,.mp (.int .i64) true (WM (Value.int .i64) eEntry titles18),.mp (.int .i64) false (WM (Value.int .i64) eIi64 at19),.cells [oi Serial24,oi Show25,oi Place26,.d (.val (.string First27)),.d (.sl (W eTransfer Chain28))] 35]) (fun y hm Kn1 hKn1=>?_) fun t h=>?_
 ·have h:=hm;clear hm;cbv;obtain⟨r30,hm,h⟩:=Option.bind_eq_some_iff.1 h;refine .embL [0,1,2] (registry_Registry_Title_R hP _ _ _ _ _ _ hm) (by (cbv;repeat (refine⟨an_,?_⟩;cbv))) fun sv0 own0 hq _=>?_;obtain⟨rfl,rfl⟩:=hq;clear hm;cbv;obtain rfl:=oj h;refine hKn1 _ _ _ rfl (.nz (.mtE [0,1,2,3] ?_));(cbv;repeat (refine⟨an_,?_⟩;cbv))
 obtain⟨Serial24,Show25,Place26,First27,Chain28,i29⟩:=t;cbv;refine .g h (fun v hv=>digest_Sum_R hP _ v hv) aw_ rfl (fun _=>rfl) fun v31 h=>?_;cbv;refine .g h (fun v hv=>title_Pass_R hP _ _ _ v hv) aw_ rfl (fun _=>rfl) fun v32 h=>?_;cbv;refine .g h (fun (v33:Bool)=>[.top,.ptr 0 0,.top,oi a4,oi e5,.top,oi f9,oi at12,oi g16,oi b20,oi h21,.ptr 3 0,.top,oi i29,.ptr 4 0]++rp 55 .top++[ob v33]++rp 117 .top) (fun v33=>[.cells [oi 2,oi 5,.hd 1,.hd 2] 74,.mp (.int .i64) true (WM (Value.int .i64) eEntry titles18),.mp (.int .i64) false (WM (Value.int .i64) eIi64 at19),.cells [oi Serial24,oi Show25,oi Place26,.d (.val (.string First27)),.d (.sl (W eTransfer Chain28))] 35,.cells [oi v32.1.Serial,oi v32.1.Show,oi v32.1.Place,.d (.val (.string v32.1.First)),.d (.sl (W eTransfer v32.1.Chain))] 35]) (fun y hm Kn1 hKn1=>?_) fun t h=>?_
 ·have h:=hm;clear hm;cbv;refine brkG h ?_ ?_<;>intro h
  ·cbv;obtain rfl:=oj h;refine hKn1 _ _ _ rfl (.nz (.mtE [0,1,2,3,4] ?_));(cbv;repeat (refine⟨an_,?_⟩;cbv))
  ·cbv;obtain rfl:=oj h;refine hKn1 _ _ _ rfl (.nz (.mtE [0,1,2,3,4] ?_));(cbv;repeat (refine⟨an_,?_⟩;cbv))
 obtain⟨v33,rfl⟩:=ez t;cbv;refine brkG h ?_ ?_<;>intro h
 ·cbv;obtain rfl:=oj h;exact hK _ _ aw_
 ·cbv;refine .g h (fun ((titles34,at35,l36):(List (Int×Entry))×(List (Int×Int))×Int)=>[.top,.ptr 0 0,.top,oi a4,oi e5,.top,oi f9,oi at12,oi g16,oi b20,oi h21,.ptr 3 0,.top,oi i29,.ptr 4 0,.top,oi l36]++rp 171 .top) (fun (titles34,at35,l36)=>[.cells [oi 2,oi 5,.hd 1,.hd 2] 74,.mp (.int .i64) true (WM (Value.int .i64) eEntry titles34),.mp (.int .i64) false (WM (Value.int .i64) eIi64 at35),.cells [oi Serial24,oi Show25,oi Place26,.d (.val (.string First27)),.d (.sl (W eTransfer Chain28))] 35,.cells [oi v32.1.Serial,oi v32.1.Show,oi v32.1.Place,.d (.val (.string v32.1.First)),.d (.sl (W eTransfer v32.1.Chain))] 35]) (fun y hm Kn1 hKn1=>?_) fun t h=>?_
  ·have h:=hm;clear hm;cbv;refine .g h (fun _=>rfl) fun x37 h=>?_;cbv;obtain⟨r38,hm,h⟩:=Option.bind_eq_some_iff.1 h;refine .embL [0,1,2] (registry_Registry_Pass_R hP _ _ _ _ _ _ _ hm) (by (cbv;repeat (refine⟨an_,?_⟩;cbv))) fun sv0 own0 hq _=>?_;obtain⟨rfl,rfl⟩:=hq;clear hm;cbv;obtain rfl:=oj h;refine hKn1 _ _ _ rfl (.nz (.mtE [0,1,2,3,4] ?_));(cbv;repeat (refine⟨an_,?_⟩;cbv))
  obtain⟨titles34,at35,l36⟩:=t;cbv;refine .g h (fun ((titles39,at40,m41):(List (Int×Entry))×(List (Int×Int))×Int)=>[.top,.ptr 0 0,.top,oi a4,oi e5,.top,oi f9,oi at12,oi g16,oi b20,oi h21,.ptr 3 0,.top,oi i29,.top,.top,oi l36,oi m41]++rp 170 .top) (fun (titles39,at40,m41)=>[.cells [oi 2,oi 5,.hd 1,.hd 2] 74,.mp (.int .i64) true (WM (Value.int .i64) eEntry titles39),.mp (.int .i64) false (WM (Value.int .i64) eIi64 at40),.cells [oi Serial24,oi Show25,oi Place26,.d (.val (.string First27)),.d (.sl (W eTransfer Chain28))] 35]) (fun y hm Kn1 hKn1=>?_) fun t h=>?_
  ·have h:=hm;clear hm;cbv;refine .g h (fun _=>rfl) fun x42 h=>?_;cbv;obtain⟨r43,hm,h⟩:=Option.bind_eq_some_iff.1 h;refine .embL [0,1,2] (registry_Registry_Pass_R hP _ _ _ _ _ _ _ hm) (by (cbv;repeat (refine⟨an_,?_⟩;cbv))) fun sv0 own0 hq _=>?_;obtain⟨rfl,rfl⟩:=hq;clear hm;cbv;obtain rfl:=oj h;refine hKn1 _ _ _ rfl (.nz (.mtE [0,1,2,3] ?_));(cbv;repeat (refine⟨an_,?_⟩;cbv))
  obtain⟨titles39,at40,m41⟩:=t;cbv;refine .g h (fun ((titles44,at45,n46):(List (Int×Entry))×(List (Int×Int))×Int)=>[.top,.ptr 0 0,.top,oi a4,oi e5,.top,oi f9,oi at12,oi g16,oi b20,oi h21,.ptr 3 0,.top,oi i29,.top,.top,oi l36,oi m41,oi n46]++rp 169 .top) (fun (titles44,at45,n46)=>[.cells [oi 2,oi 5,.hd 1,.hd 2] 74,.mp (.int .i64) true (WM (Value.int .i64) eEntry titles44),.mp (.int .i64) false (WM (Value.int .i64) eIi64 at45),.cells [oi Serial24,oi Show25,oi Place26,.d (.val (.string First27)),.d (.sl (W eTransfer Chain28))] 35]) (fun y hm Kn1 hKn1=>?_) fun t h=>?_
  ·have h:=hm;clear hm;cbv;obtain⟨r47,hm,h⟩:=Option.bind_eq_some_iff.1 h;refine .embL [0,1,2] (registry_Registry_Revoke_R hP _ _ _ _ _ _ _ hm) (by (cbv;repeat (refine⟨an_,?_⟩;cbv))) fun sv0 own0 hq _=>?_;obtain⟨rfl,rfl⟩:=hq;clear hm;cbv;obtain rfl:=oj h;refine hKn1 _ _ _ rfl (.nz (.mtE [0,1,2,3] ?_));(cbv;repeat (refine⟨an_,?_⟩;cbv))
  obtain⟨titles44,at45,n46⟩:=t;cbv;refine .g h (fun ((titles48,at49,o50):(List (Int×Entry))×(List (Int×Int))×Int)=>[.top,.ptr 0 0,.top,oi a4,oi e5,.top,oi f9,oi at12,oi g16,oi b20,oi h21,.ptr 3 0,.top,oi i29,.top,.top,oi l36,oi m41,oi n46,oi o50]++rp 168 .top) (fun (titles48,at49,o50)=>[.cells [oi 2,oi 5,.hd 1,.hd 2] 74,.mp (.int .i64) true (WM (Value.int .i64) eEntry titles48),.mp (.int .i64) false (WM (Value.int .i64) eIi64 at49),.cells [oi Serial24,oi Show25,oi Place26,.d (.val (.string First27)),.d (.sl (W eTransfer Chain28))] 35]) (fun y hm Kn1 hKn1=>?_) fun t h=>?_
  ·have h:=hm;clear hm;cbv;obtain⟨r51,hm,h⟩:=Option.bind_eq_some_iff.1 h;refine .embL [0,1,2] (registry_Registry_Revoke_R hP _ _ _ _ _ _ _ hm) (by (cbv;repeat (refine⟨an_,?_⟩;cbv))) fun sv0 own0 hq _=>?_;obtain⟨rfl,rfl⟩:=hq;clear hm;cbv;obtain rfl:=oj h;refine hKn1 _ _ _ rfl (.nz (.mtE [0,1,2,3] ?_));(cbv;repeat (refine⟨an_,?_⟩;cbv))
  obtain⟨titles48,at49,o50⟩:=t;cbv;refine .g h (fun ((titles52,at53,c54,p55):(List (Int×Entry))×(List (Int×Int))×Int×Int)=>[.top,.ptr 0 0,.top,oi a4,oi e5,.top,oi f9,oi at12,oi g16,oi b20,oi h21,.ptr 3 0,.top,oi i29,.top,.top,oi l36,oi m41,oi n46,oi o50,oi c54,oi p55]++rp 166 .top) (fun (titles52,at53,c54,p55)=>[.cells [oi 2,oi 5,.hd 1,.hd 2] 74,.mp (.int .i64) true (WM (Value.int .i64) eEntry titles52),.mp (.int .i64) false (WM (Value.int .i64) eIi64 at53),.cells [oi Serial24,oi Show25,oi Place26,.d (.val (.string First27)),.d (.sl (W eTransfer Chain28))] 35]) (fun y hm Kn1 hKn1=>?_) fun t h=>?_
  ·have h:=hm;clear hm;cbv;refine .g h (fun v hv=>digest_Sum_R hP _ v hv) aw_ rfl (fun _=>rfl) fun v56 h=>?_;cbv;obtain⟨r57,hm,h⟩:=Option.bind_eq_some_iff.1 h;refine .embL [0,1,2] (registry_Registry_Issue_R hP _ _ _ _ _ _ _ hm) (by (cbv;repeat (refine⟨an_,?_⟩;cbv))) fun sv0 own0 hq _=>?_;obtain⟨rfl,rfl⟩:=hq;clear hm;cbv;obtain rfl:=oj h;refine hKn1 _ _ _ rfl (.nz (.mtE [0,1,2,3] ?_));(cbv;repeat (refine⟨an_,?_⟩;cbv))
  obtain⟨titles52,at53,c54,p55⟩:=t;cbv;refine .g h (fun ((Serial58,Show59,Place60,First61,Chain62,gone63,q64):Int×Int×Int×ByteArray×(List Transfer)×Int×Int)=>[.top,.ptr 0 0,.top,oi a4,oi e5,.top,oi f9,oi at12,oi g16,oi b20,oi h21,.ptr 3 0,.top,oi i29,.top,.top,oi l36,oi m41,oi n46,oi o50,oi c54,oi p55,.ptr 4 0,oi gone63,oi q64]++rp 163 .top) (fun (Serial58,Show59,Place60,First61,Chain62,gone63,q64)=>[.cells [oi 2,oi 5,.hd 1,.hd 2] 74,.mp (.int .i64) true (WM (Value.int .i64) eEntry titles52),.mp (.int .i64) false (WM (Value.int .i64) eIi64 at53),.cells [oi Serial24,oi Show25,oi Place26,.d (.val (.string First27)),.d (.sl (W eTransfer Chain28))] 35,.cells [oi Serial58,oi Show59,oi Place60,.d (.val (.string First61)),.d (.sl (W eTransfer Chain62))] 35]) (fun y hm Kn1 hKn1=>?_) fun t h=>?_
  ·have h:=hm;clear hm;cbv;obtain⟨r65,hm,h⟩:=Option.bind_eq_some_iff.1 h;refine .embL [0,1,2] (registry_Registry_Title_R hP _ _ _ _ _ _ hm) (by (cbv;repeat (refine⟨an_,?_⟩;cbv))) fun sv0 own0 hq _=>?_;obtain⟨rfl,rfl⟩:=hq;clear hm;cbv;obtain rfl:=oj h;refine hKn1 _ _ _ rfl (.nz (.mtE [0,1,2,3,4] ?_));(cbv;repeat (refine⟨an_,?_⟩;cbv))
  obtain⟨Serial58,Show59,Place60,First61,Chain62,gone63,q64⟩:=t;cbv;refine .g h (fun (one66:Bool)=>[.top,.ptr 0 0]++rp 18 .top++[oi c54,oi p55,.ptr 3 0,oi gone63,oi q64,.d (.val (.pointer none)),ob one66]++rp 161 .top) (fun one66=>[.cells [oi 2,oi 5,.hd 1,.hd 2] 74,.mp (.int .i64) true (WM (Value.int .i64) eEntry titles52),.mp (.int .i64) false (WM (Value.int .i64) eIi64 at53),.cells [oi Serial58,oi Show59,oi Place60,.d (.val (.string First61)),.d (.sl (W eTransfer Chain62))] 35]) (fun y hm Kn1 hKn1=>?_) fun t h=>?_
  ·have h:=hm;clear hm;cbv;refine brkG h ?_ ?_<;>intro h
   ·cbv;refine brkG h ?_ ?_<;>intro h
    ·cbv;refine brkG h ?_ ?_<;>intro h
     ·cbv;refine brkG h ?_ ?_<;>intro h
      ·cbv;refine brkG h ?_ ?_<;>intro h
       ·cbv;refine brkG h ?_ ?_<;>intro h
        ·cbv;refine brkG h ?_ ?_<;>intro h
         ·cbv;refine brkG h ?_ ?_<;>intro h
          ·cbv;refine brkG h ?_ ?_<;>intro h
           ·cbv;refine brkG h ?_ ?_<;>intro h
            ·cbv;refine brkG h ?_ ?_<;>intro h
             ·cbv;refine brkG h ?_ ?_<;>intro h
              ·cbv;obtain rfl:=oj h;refine hKn1 _ _ _ rfl (.nz (.mtE [0,1,2,4] ?_));(cbv;repeat (refine⟨an_,?_⟩;cbv))
              ·cbv;obtain rfl:=oj h;refine hKn1 _ _ _ rfl (.nz (.mtE [0,1,2,4] ?_));(cbv;repeat (refine⟨an_,?_⟩;cbv))
             ·cbv;obtain rfl:=oj h;refine hKn1 _ _ _ rfl (.nz (.mtE [0,1,2,4] ?_));(cbv;repeat (refine⟨an_,?_⟩;cbv))
            ·cbv;obtain rfl:=oj h;refine hKn1 _ _ _ rfl (.nz (.mtE [0,1,2,4] ?_));(cbv;repeat (refine⟨an_,?_⟩;cbv))
           ·cbv;obtain rfl:=oj h;refine hKn1 _ _ _ rfl (.nz (.mtE [0,1,2,4] ?_));(cbv;repeat (refine⟨an_,?_⟩;cbv))
          ·cbv;obtain rfl:=oj h;refine hKn1 _ _ _ rfl (.nz (.mtE [0,1,2,4] ?_));(cbv;repeat (refine⟨an_,?_⟩;cbv))
         ·cbv;obtain rfl:=oj h;refine hKn1 _ _ _ rfl (.nz (.mtE [0,1,2,4] ?_));(cbv;repeat (refine⟨an_,?_⟩;cbv))
        ·cbv;obtain rfl:=oj h;refine hKn1 _ _ _ rfl (.nz (.mtE [0,1,2,4] ?_));(cbv;repeat (refine⟨an_,?_⟩;cbv))
       ·cbv;obtain rfl:=oj h;refine hKn1 _ _ _ rfl (.nz (.mtE [0,1,2,4] ?_));(cbv;repeat (refine⟨an_,?_⟩;cbv))
      ·cbv;obtain rfl:=oj h;refine hKn1 _ _ _ rfl (.nz (.mtE [0,1,2,4] ?_));(cbv;repeat (refine⟨an_,?_⟩;cbv))
     ·cbv;obtain rfl:=oj h;refine hKn1 _ _ _ rfl (.nz (.mtE [0,1,2,4] ?_));(cbv;repeat (refine⟨an_,?_⟩;cbv))
    ·cbv;obtain rfl:=oj h;refine hKn1 _ _ _ rfl (.nz (.mtE [0,1,2,4] ?_));(cbv;repeat (refine⟨an_,?_⟩;cbv))
   ·cbv;obtain rfl:=oj h;refine hKn1 _ _ _ rfl (.nz (.mtE [0,1,2,4] ?_));(cbv;repeat (refine⟨an_,?_⟩;cbv))
  obtain⟨one66,rfl⟩:=ez t;cbv;refine brkG h ?_ ?_<;>intro h
  ·cbv;refine brkG h ?_ ?_<;>intro h
   ·cbv;refine brkG h ?_ ?_<;>intro h
    ·cbv;refine brkG h ?_ ?_<;>intro h
     ·cbv;refine brkG h ?_ ?_<;>intro h
      ·cbv;refine .g h (fun v hv=>title_Owner_R hP _ v hv) aw_ rfl (fun _=>rfl) fun v67 h=>?_;cbv;refine .g h (fun v hv=>digest_Sum_R hP _ v hv) aw_ rfl (fun _=>rfl) fun v68 h=>?_;cbv;refine brkG h ?_ ?_<;>intro h
       ·cbv;obtain⟨r69,hm,h⟩:=Option.bind_eq_some_iff.1 h;refine .embL [0,1,2] (registry_Registry_Revoked_R hP _ _ _ _ _ hm) (by (cbv;repeat (refine⟨an_,?_⟩;cbv))) fun sv0 own0 hq _=>?_;obtain⟨rfl,rfl⟩:=hq;clear hm;cbv;refine .g (e:=eIi64) h (W_cons aw_ (W_nil' _)) fun l70 h=>?_;cbv;refine .gl [] h (fun v hv=>ref11_Ints_R hP _ _ v hv) aw_ rfl fun v71 h=>?_;cbv;refine brkG h ?_ ?_<;>intro h
        ·cbv;obtain⟨hb,h⟩:=optN_no h;refine .emb [] (registry_New_no hP _ _ hb) (by (cbv;repeat (refine⟨an_,?_⟩;cbv))) fun sv0 own0 hq _=>?_;obtain⟨rfl,rfl⟩:=hq
         clear hb
         cbv;refine .g h (fun v hv=>registry_Registry_Revoke_nil_R hP _ _ v hv) aw_ rfl (fun _=>rfl) fun v72 h=>?_;cbv;obtain rfl:=oj h;exact hK _ _ aw_
        ·cbv;obtain rfl:=oj h;exact hK _ _ aw_
       ·cbv;obtain rfl:=oj h;exact hK _ _ aw_
      ·cbv;obtain rfl:=oj h;exact hK _ _ aw_
     ·cbv;obtain rfl:=oj h;exact hK _ _ aw_
    ·cbv;obtain rfl:=oj h;exact hK _ _ aw_
   ·cbv;obtain rfl:=oj h;exact hK _ _ aw_
  ·cbv;obtain rfl:=oj h;exact hK _ _ aw_
end Go.SX.Rg
