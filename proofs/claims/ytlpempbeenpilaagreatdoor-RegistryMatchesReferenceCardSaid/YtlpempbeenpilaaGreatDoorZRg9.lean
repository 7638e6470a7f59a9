/- Parts of the proof. -/
import Derived.Test.YtlpempbeenpilaaGreatDoorZRgT
import Derived.Test.YtlpempbeenpilaaGreatDoorZRg46d
import Derived.Test.YtlpempbeenpilaaGreatDoorZRg65
import Derived.Test.YtlpempbeenpilaaGreatDoorZRg30d
import Derived.Test.YtlpempbeenpilaaGreatDoorZRg33d
import Derived.Test.YtlpempbeenpilaaGreatDoorZRg44d
set_option linter.unusedSimpArgs false
set_option linter.unusedVariables false
set_option linter.unusedSectionVars false
namespace Go.SX.Rg
open Go Go.SX Go.Proofs
set_option maxRecDepth 100000
def c9r0 : List GOp:=gS 0 [.mv (cB false)]
def c9r1 : List GOp:=gS 27 [.call 11 [(ci 2),(ci 5)]]++gS 1 [.mv 27]
def c9r2 : List GOp:=gS 28 [.call 30 [(.const (.string ⟨#[107]⟩))]]++gS 2 [.mv 28]
def c9r3 : List GOp:=gS 30 [.mv 1,.mv 2,.call 43 [30,(ci 3),31]]++gS 29 [.mv 32]++gS 33 [.ext 29 0,.ext 29 1]++gS 3 [.mv 33,.mv 34]
def c9r4 : List GOp:=gS 36 [.mv 1,.call 44 [(.const (.string ⟨#[108]⟩))],.call 43 [36,(ci 3),37]]++gS 35 [.mv 38]++gS 39 [.ext 35 0,.ext 35 1]++gS 5 [.mv 39,.mv 40]
def c9r5 : List GOp:=gS 41 [.mv 1,.call 25 [41,(ci 3)]]++gS 7 [.mv 42]
def c9r6 : List GOp:=gS 43 [.mv 1,.call 38 [43,(ci 30001),(ci 4)]]++gS 8 [.mv 44]
def c9r7 : List GOp:=gS 46 [.mv 1,.call 44 [(.const (.string ⟨#[108]⟩))],.call 43 [46,(ci 3),47]]++gS 45 [.mv 48]++gS 49 [.ext 45 0,.ext 45 1]++gS 9 [.mv 49,.mv 50]
def c9r8 : List GOp:=gS 52 [.mv 1,.call 14 [52,(ci 30001)]]++gS 51 [.mv 53]++gS 54 [.ext 51 0,.ext 51 1,.ext 51 2]++gS 11 [.alloc 35 (.agg #[oz,oz,oz,(.string ⟨#[]⟩),(.slice none 0 0)])]++[⟨none,.store 5 11 54,none⟩]++gS 12 [.mv 55,.mv 56]
def c9r9 : List GOp:=gS 58 [.load 5 true 11,.call 44 [(.const (.string ⟨#[109]⟩))],.call 32 [58,59,(.const (.string ⟨#[107]⟩))]]++gS 57 [.mv 60]++gS 61 [.ext 57 0,.ext 57 1]++gS 14 [.alloc 35 (.agg #[oz,oz,oz,(.string ⟨#[]⟩),(.slice none 0 0)])]++[⟨none,.store 5 14 61,none⟩]++gS 15 [.mv 62]
def c9r10 : List GOp:=gS 63 [.mv 15,.bin .neq 63 (ci 0),.mv 64]++gQ 65 false 66 [.fadd 4 14,.load 1 false 66,.len false 67,.bin .neq 68 (ci 1)]++gS 70 [.pick 65 (cB true) 69]
def c9r11 : List GOp:=gS 0 [.mv (cB false)]
def c9r12 : List GOp:=gS 71 [.mv 1,.fadd 4 14,.load 1 false 72,.idxA 2 73 (ci 0),.load 2 true 74,.call 33 [71,(ci 30001),75]]++gS 16 [.mv 76]
def c9r13 : List GOp:=gS 77 [.mv 1,.fadd 4 14,.load 1 false 78,.idxA 2 79 (ci 0),.load 2 true 80,.call 33 [77,(ci 30001),81]]++gS 17 [.mv 82]
def c9r14 : List GOp:=gS 83 [.mv 1,.call 45 [83,(ci 30001),(ci 100)]]++gS 18 [.mv 84]
def c9r15 : List GOp:=gS 85 [.mv 1,.call 45 [85,(ci 30001),(ci 101)]]++gS 19 [.mv 86]
def c9r16 : List GOp:=gS 88 [.mv 1,.call 44 [(.const (.string ⟨#[109]⟩))],.call 43 [88,(ci 4),89]]++gS 87 [.mv 90]++gS 91 [.ext 87 0,.ext 87 1]++gS 20 [.mv 91,.mv 92]
def c9r17 : List GOp:=gS 94 [.mv 1,.call 14 [94,(ci 30001)]]++gS 93 [.mv 95]++gS 96 [.ext 93 0,.ext 93 1,.ext 93 2]++gS 22 [.alloc 35 (.agg #[oz,oz,oz,(.string ⟨#[]⟩),(.slice none 0 0)])]++[⟨none,.store 5 22 96,none⟩]++gS 23 [.mv 97,.mv 98]
def c9r18 : List GOp:=gS 25 [.mv (.const (.pointer none))]
def c9r19 : List GOp:=gS 99 [.mv 4,.bin .eql 99 (ci 0),.mv 100]++gQ 101 true 102 [.mv 3,.bin .eql 102 (ci 30001)]++gS 104 [.pick 101 103 (cB false),.mv 104]++gQ 105 true 106 [.mv 6,.bin .eql 106 (ci 16)]++gS 108 [.pick 105 107 (cB false),.mv 108]++gQ 109 true 110 [.mv 7,.bin .eql 110 (ci 30001)]++gS 112 [.pick 109 111 (cB false),.mv 112]++gQ 113 true 114 [.mv 8,.bin .eql 114 (ci 0)]++gS 116 [.pick 113 115 (cB false),.mv 116]++gQ 117 true 118 [.mv 10,.bin .eql 118 (ci 0)]++gS 120 [.pick 117 119 (cB false),.mv 120]++gQ 121 true 122 [.mv 9,.bin .eql 122 (ci 30002)]++gS 124 [.pick 121 123 (cB false),.mv 124]++gQ 125 true 126 [.mv 13,.bin .eql 126 (ci 0)]++gS 128 [.pick 125 127 (cB false),.mv 128]++gQ 129 true 130 [.fadd 2 11,.load 1 false 130,.bin .eql 131 (ci 4)]++gS 133 [.pick 129 132 (cB false),.mv 133]++gQ 134 true 135 [.mv 16,.bin .eql 135 (ci 0)]++gS 137 [.pick 134 136 (cB false),.mv 137]++gQ 138 true 139 [.mv 17,.bin .eql 139 (ci 20)]++gS 141 [.pick 138 140 (cB false),.mv 141]++gQ 142 true 143 [.mv 18,.bin .eql 143 (ci 0)]++gS 145 [.pick 142 144 (cB false),.mv 145]++gQ 146 true 147 [.mv 19,.bin .eql 147 (ci 27)]++gS 149 [.pick 146 148 (cB false)]++gS 26 [.mv 149]
def c9r20 : List GOp:=gS 150 [.mv 26,.mv 150]++gQ 151 true 152 [.mv 21,.bin .eql 152 (ci 0)]++gS 154 [.pick 151 153 (cB false),.mv 154]++gQ 155 true 156 [.mv 20,.bin .eql 156 (ci 30003)]++gS 158 [.pick 155 157 (cB false),.mv 158]++gQ 159 true 160 [.mv 24,.bin .eql 160 (ci 0)]++gS 162 [.pick 159 161 (cB false),.mv 162]++gQ 163 true 164 [.mv 23,.bin .eql 164 (ci 100)]++gS 166 [.pick 163 165 (cB false),.mv 166]++gQ 167 true 168 [.load 5 true 22,.call 35 [168],.call 44 [(.const (.string ⟨#[109]⟩))],.bin .eql 169 170]++gS 172 [.pick 167 171 (cB false),.mv 172]++gQ 173 true 174 [.mv 1,.call 23 [174],.bslice 3 1 1 oz [(0,(ci 30001))],.call 22 [175,176]]++gS 178 [.pick 173 177 (cB false),.mv 178]++gQ 179 true 180 [.call 11 [(ci 20),(ci 1)],.pnil false 180]++gS 182 [.pick 179 181 (cB false),.mv 182]++gQ 183 true 184 [.mv 25,.call 45 [184,(ci 1),(ci 1)],.bin .eql 185 (ci 1)]++gS 187 [.pick 183 186 (cB false)]++gS 0 [.mv 187]
def c9 : EFn:=⟨188,.seq (.reg c9r0) (.seq (.reg c9r1) (.seq (.reg c9r2) (.join (.reg c9r3) (.join (.reg c9r4) (.join (.reg c9r5) (.join (.reg c9r6) (.join (.reg c9r7) (.join (.reg c9r8) (.seq (.par false false false true 8 c9r9) (.seq (.join (.reg c9r10) (.cond 70 (.seq (.reg c9r11) (.ret)) (.skip))) (.join (.reg c9r12) (.join (.reg c9r13) (.join (.reg c9r14) (.join (.reg c9r15) (.join (.reg c9r16) (.join (.reg c9r17) (.seq (.reg c9r18) (.join (.reg c9r19) (.seq (.reg c9r20) (.ret)))))))))))))))))))),[.tmp 0]⟩
theorem c9_ok : compF Tryz.prog 9=some c9.er:=by kernel_rfl
set_option maxHeartbeats 4000000 in
theorem law32_head_R {P:Program}(hP:P=Tryz.prog)(r:Bool)(h:law32_head_g=some r):Fn1 P 9 [] (vB r):=by
 refine .walkE (hP▸c9_ok) fun K hK=>?_;unfold law32_head_g at h;cbv;obtain⟨hb,h⟩:=optN_ok h;refine .emb [] (registry_New_ok hP _ _ hb) mx fun sv0 own0 hq _=>?_;obtain⟨rfl,rfl⟩:=hq
 clear hb
 cbv;refine .g h (fun v hv=>sign_Public_R hP _ v hv) aw_ rfl (fun _=>rfl) fun k1 h=>?_;cbv;refine .g h (fun ((titles2,at3,a4,e5):(List (Int×Entry))×(List (Int×Int))×Int×Int)=>[.top,.ptr 0 0,.top,oi a4,oi e5]++rp 183 .top) (fun (titles2,at3,a4,e5)=>[.cells [oi 2,oi 5,.hd 1,.hd 2] 74,.mp (.int .i64) true (WM (Value.int .i64) eEntry titles2),.mp (.int .i64) false (WM (Value.int .i64) eIi64 at3)]) (fun y hm Kn1 hKn1=>?_) fun t h=>?_
 ·have h:=hm;clear hm;cbv;obtain⟨r6,hm,h⟩:=Option.bind_eq_some_iff.1 h;refine .embL [0,1,2] (registry_Registry_Issue_R hP _ _ _ _ _ _ _ hm) mx fun sv0 own0 hq _=>?_;obtain⟨rfl,rfl⟩:=hq;clear hm;cbv;obtain rfl:=oj h;exact hKn1 _ _ _ rfl (.nz (.mtE [0,1,2] mx))
 obtain⟨titles2,at3,a4,e5⟩:=t;cbv;refine .g h (fun ((titles7,at8,f9):(List (Int×Entry))×(List (Int×Int))×Int)=>[.top,.ptr 0 0,.top,oi a4,oi e5,.top,oi f9]++rp 181 .top) (fun (titles7,at8,f9)=>[.cells [oi 2,oi 5,.hd 1,.hd 2] 74,.mp (.int .i64) true (WM (Value.int .i64) eEntry titles7),.mp (.int .i64) false (WM (Value.int .i64) eIi64 at8)]) (fun y hm Kn1 hKn1=>?_) fun t h=>?_
 ·have h:=hm;clear hm;cbv;refine .g h (fun v hv=>digest_Sum_R hP _ v hv) aw_ rfl (fun _=>rfl) fun v10 h=>?_;cbv;obtain⟨r11,hm,h⟩:=Option.bind_eq_some_iff.1 h;refine .embL [0,1,2] (registry_Registry_Issue_R hP _ _ _ _ _ _ _ hm) mx fun sv0 own0 hq _=>?_;obtain⟨rfl,rfl⟩:=hq;clear hm;cbv;obtain rfl:=oj h;exact hKn1 _ _ _ rfl (.nz (.mtE [0,1,2] mx))
 obtain⟨titles7,at8,f9⟩:=t;cbv;refine .g h (fun (at12:Int)=>[.top,.ptr 0 0,.top,oi a4,oi e5,.top,oi f9,oi at12]++rp 180 .top) (fun at12=>[.cells [oi 2,oi 5,.hd 1,.hd 2] 74,.mp (.int .i64) true (WM (Value.int .i64) eEntry titles7),.mp (.int .i64) false (WM (Value.int .i64) eIi64 at8)]) (fun y hm Kn1 hKn1=>?_) fun t h=>?_
 ·have h:=hm;clear hm;cbv;obtain⟨r13,hm,h⟩:=Option.bind_eq_some_iff.1 h;refine .embL [0,1,2] (registry_Registry_At_R hP _ _ _ _ _ _ hm) mx fun sv0 own0 hq _=>?_;obtain⟨rfl,rfl⟩:=hq;clear hm;cbv;obtain rfl:=oj h;exact hKn1 _ _ _ rfl (.nz (.mtE [0,1,2] mx))
 obtain⟨at12,rfl⟩:=ez t;cbv;refine .g h (fun ((titles14,at15,g16):(List (Int×Entry))×(List (Int×Int))×Int)=>[.top,.ptr 0 0,.top,oi a4,oi e5,.top,oi f9,oi at12,oi g16]++rp 179 .top) (fun (titles14,at15,g16)=>[.cells [oi 2,oi 5,.hd 1,.hd 2] 74,.mp (.int .i64) true (WM (Value.int .i64) eEntry titles14),.mp (.int .i64) false (WM (Value.int .i64) eIi64 at15)]) (fun y hm Kn1 hKn1=>?_) fun t h=>?_
 ·have h:=hm;clear hm;cbv;obtain⟨r17,hm,h⟩:=Option.bind_eq_some_iff.1 h;refine .embL [0,1,2] (registry_Registry_Move_R hP _ _ _ _ _ _ _ hm) mx fun sv0 own0 hq _=>?_;obtain⟨rfl,rfl⟩:=hq;clear hm;cbv;obtain rfl:=oj h;exact hKn1 _ _ _ rfl (.nz (.mtE [0,1,2] mx))
 obtain⟨titles14,at15,g16⟩:=t;cbv;refine .g h (fun ((titles18,at19,b20,h21):(List (Int×Entry))×(List (Int×Int))×Int×Int)=>[.top,.ptr 0 0,.top,oi a4,oi e5,.top,oi f9,oi at12,oi g16,oi b20,oi h21]++rp 177 .top) (fun (titles18,at19,b20,h21)=>[.cells [oi 2,oi 5,.hd 1,.hd 2] 74,.mp (.int .i64) true (WM (Value.int .i64) eEntry titles18),.mp (.int .i64) false (WM (Value.int .i64) eIi64 at19)]) (fun y hm Kn1 hKn1=>?_) fun t h=>?_
 ·have h:=hm;clear hm;cbv;refine .g h (fun v hv=>digest_Sum_R hP _ v hv) aw_ rfl (fun _=>rfl) fun v22 h=>?_;cbv;obtain⟨r23,hm,h⟩:=Option.bind_eq_some_iff.1 h;refine .embL [0,1,2] (registry_Registry_Issue_R hP _ _ _ _ _ _ _ hm) mx fun sv0 own0 hq _=>?_;obtain⟨rfl,rfl⟩:=hq;clear hm;cbv;obtain rfl:=oj h;exact hKn1 _ _ _ rfl (.nz (.mtE [0,1,2] mx))
 obtain⟨titles18,at19,b20,h21⟩:=t;cbv;refine .g h (fun ((Serial24,Show25,Place26,First27,Chain28,i29):Int×Int×Int×ByteArray×(List Transfer)×Int)=>[.top,.ptr 0 0,.top,oi a4,oi e5,.top,oi f9,oi at12,oi g16,oi b20,oi h21,.ptr 3 0,.top,oi i29]++rp 174 .top) (fun (Serial24,Show25,Place26,First27,Chain28,i29)=>[.cells [oi 2,oi 5,.hd 1,.hd 2] 74,.mp (.int .i64) true (WM (Value.int .i64) eEntry titles18),.mp (.int .i64) false (WM (Value.int .i64) eIi64 at19),.cells [oi Serial24,oi Show25,oi Place26,.d (.val (.string First27)),dq eTransfer Chain28] 35]) (fun y hm Kn1 hKn1=>?_) fun t h=>?_
 ·have h:=hm;clear hm;cbv;obtain⟨r30,hm,h⟩:=Option.bind_eq_some_iff.1 h;refine .embL [0,1,2] (registry_Registry_Title_R hP _ _ _ _ _ _ hm) mx fun sv0 own0 hq _=>?_;obtain⟨rfl,rfl⟩:=hq;clear hm;cbv;obtain rfl:=oj h;exact hKn1 _ _ _ rfl (.nz (.mtE [0,1,2,3] mx))
 obtain⟨Serial24,Show25,Place26,First27,Chain28,i29⟩:=t;cbv;refine .g h (fun v hv=>digest_Sum_R hP _ v hv) aw_ rfl (fun _=>rfl) fun v31 h=>?_;cbv;refine .g h (fun v hv=>title_Pass_R hP _ _ _ v hv) aw_ rfl (fun _=>rfl) fun v32 h=>?_;cbv;refine .g h (fun (v33:Bool)=>[.top,.ptr 0 0,.top,oi a4,oi e5,.top,oi f9,oi at12,oi g16,oi b20,oi h21,.ptr 3 0,.top,oi i29,.ptr 4 0]++rp 55 .top++[ob v33]++rp 117 .top) (fun v33=>[.cells [oi 2,oi 5,.hd 1,.hd 2] 74,.mp (.int .i64) true (WM (Value.int .i64) eEntry titles18),.mp (.int .i64) false (WM (Value.int .i64) eIi64 at19),.cells [oi Serial24,oi Show25,oi Place26,.d (.val (.string First27)),dq eTransfer Chain28] 35,.cells [oi v32.1.Serial,oi v32.1.Show,oi v32.1.Place,.d (.val (.string v32.1.First)),dq eTransfer v32.1.Chain] 35]) (fun y hm Kn1 hKn1=>?_) fun t h=>?_
 ·have h:=hm;clear hm;cbv;refine brkG h ?_ ?_<;>intro h
  ·cbv;obtain rfl:=oj h;exact hKn1 _ _ _ rfl (.nz (.mtE [0,1,2,3,4] mx))
  ·cbv;obtain rfl:=oj h;exact hKn1 _ _ _ rfl (.nz (.mtE [0,1,2,3,4] mx))
 obtain⟨v33,rfl⟩:=ez t;cbv;refine brkG h ?_ ?_<;>intro h
 ·cbv;obtain rfl:=oj h;exact hK _ _ aw_
 ·cbv;refine .g h (fun ((titles34,at35,l36):(List (Int×Entry))×(List (Int×Int))×Int)=>[.top,.ptr 0 0,.top,oi a4,oi e5,.top,oi f9,oi at12,oi g16,oi b20,oi h21,.ptr 3 0,.top,oi i29,.ptr 4 0,.top,oi l36]++rp 171 .top) (fun (titles34,at35,l36)=>[.cells [oi 2,oi 5,.hd 1,.hd 2] 74,.mp (.int .i64) true (WM (Value.int .i64) eEntry titles34),.mp (.int .i64) false (WM (Value.int .i64) eIi64 at35),.cells [oi Serial24,oi Show25,oi Place26,.d (.val (.string First27)),dq eTransfer Chain28] 35,.cells [oi v32.1.Serial,oi v32.1.Show,oi v32.1.Place,.d (.val (.string v32.1.First)),dq eTransfer v32.1.Chain] 35]) (fun y hm Kn1 hKn1=>?_) fun t h=>?_
  ·have h:=hm;clear hm;cbv;refine .g h (fun _=>rfl) fun x37 h=>?_;cbv;obtain⟨r38,hm,h⟩:=Option.bind_eq_some_iff.1 h;refine .embL [0,1,2] (registry_Registry_Pass_R hP _ _ _ _ _ _ _ hm) mx fun sv0 own0 hq _=>?_;obtain⟨rfl,rfl⟩:=hq;clear hm;cbv;obtain rfl:=oj h;exact hKn1 _ _ _ rfl (.nz (.mtE [0,1,2,3,4] mx))
  obtain⟨titles34,at35,l36⟩:=t;cbv;refine .g h (fun ((titles39,at40,m41):(List (Int×Entry))×(List (Int×Int))×Int)=>[.top,.ptr 0 0,.top,oi a4,oi e5,.top,oi f9,oi at12,oi g16,oi b20,oi h21,.ptr 3 0,.top,oi i29,.top,.top,oi l36,oi m41]++rp 170 .top) (fun (titles39,at40,m41)=>[.cells [oi 2,oi 5,.hd 1,.hd 2] 74,.mp (.int .i64) true (WM (Value.int .i64) eEntry titles39),.mp (.int .i64) false (WM (Value.int .i64) eIi64 at40),.cells [oi Serial24,oi Show25,oi Place26,.d (.val (.string First27)),dq eTransfer Chain28] 35]) (fun y hm Kn1 hKn1=>?_) fun t h=>?_
  ·have h:=hm;clear hm;cbv;refine .g h (fun _=>rfl) fun x42 h=>?_;cbv;obtain⟨r43,hm,h⟩:=Option.bind_eq_some_iff.1 h;refine .embL [0,1,2] (registry_Registry_Pass_R hP _ _ _ _ _ _ _ hm) mx fun sv0 own0 hq _=>?_;obtain⟨rfl,rfl⟩:=hq;clear hm;cbv;obtain rfl:=oj h;exact hKn1 _ _ _ rfl (.nz (.mtE [0,1,2,3] mx))
  obtain⟨titles39,at40,m41⟩:=t;cbv;refine .g h (fun ((titles44,at45,n46):(List (Int×Entry))×(List (Int×Int))×Int)=>[.top,.ptr 0 0,.top,oi a4,oi e5,.top,oi f9,oi at12,oi g16,oi b20,oi h21,.ptr 3 0,.top,oi i29,.top,.top,oi l36,oi m41,oi n46]++rp 169 .top) (fun (titles44,at45,n46)=>[.cells [oi 2,oi 5,.hd 1,.hd 2] 74,.mp (.int .i64) true (WM (Value.int .i64) eEntry titles44),.mp (.int .i64) false (WM (Value.int .i64) eIi64 at45),.cells [oi Serial24,oi Show25,oi Place26,.d (.val (.string First27)),dq eTransfer Chain28] 35]) (fun y hm Kn1 hKn1=>?_) fun t h=>?_
  ·have h:=hm;clear hm;cbv;obtain⟨r47,hm,h⟩:=Option.bind_eq_some_iff.1 h;refine .embL [0,1,2] (registry_Registry_Revoke_R hP _ _ _ _ _ _ _ hm) mx fun sv0 own0 hq _=>?_;obtain⟨rfl,rfl⟩:=hq;clear hm;cbv;obtain rfl:=oj h;exact hKn1 _ _ _ rfl (.nz (.mtE [0,1,2,3] mx))
  obtain⟨titles44,at45,n46⟩:=t;cbv;refine .g h (fun ((titles48,at49,o50):(List (Int×Entry))×(List (Int×Int))×Int)=>[.top,.ptr 0 0,.top,oi a4,oi e5,.top,oi f9,oi at12,oi g16,oi b20,oi h21,.ptr 3 0,.top,oi i29,.top,.top,oi l36,oi m41,oi n46,oi o50]++rp 168 .top) (fun (titles48,at49,o50)=>[.cells [oi 2,oi 5,.hd 1,.hd 2] 74,.mp (.int .i64) true (WM (Value.int .i64) eEntry titles48),.mp (.int .i64) false (WM (Value.int .i64) eIi64 at49),.cells [oi Serial24,oi Show25,oi Place26,.d (.val (.string First27)),dq eTransfer Chain28] 35]) (fun y hm Kn1 hKn1=>?_) fun t h=>?_
  ·have h:=hm;clear hm;cbv;obtain⟨r51,hm,h⟩:=Option.bind_eq_some_iff.1 h;refine .embL [0,1,2] (registry_Registry_Revoke_R hP _ _ _ _ _ _ _ hm) mx fun sv0 own0 hq _=>?_;obtain⟨rfl,rfl⟩:=hq;clear hm;cbv;obtain rfl:=oj h;exact hKn1 _ _ _ rfl (.nz (.mtE [0,1,2,3] mx))
  obtain⟨titles48,at49,o50⟩:=t;cbv;refine .g h (fun ((titles52,at53,c54,p55):(List (Int×Entry))×(List (Int×Int))×Int×Int)=>[.top,.ptr 0 0,.top,oi a4,oi e5,.top,oi f9,oi at12,oi g16,oi b20,oi h21,.ptr 3 0,.top,oi i29,.top,.top,oi l36,oi m41,oi n46,oi o50,oi c54,oi p55]++rp 166 .top) (fun (titles52,at53,c54,p55)=>[.cells [oi 2,oi 5,.hd 1,.hd 2] 74,.mp (.int .i64) true (WM (Value.int .i64) eEntry titles52),.mp (.int .i64) false (WM (Value.int .i64) eIi64 at53),.cells [oi Serial24,oi Show25,oi Place26,.d (.val (.string First27)),dq eTransfer Chain28] 35]) (fun y hm Kn1 hKn1=>?_) fun t h=>?_
  ·have h:=hm;clear hm;cbv;refine .g h (fun v hv=>digest_Sum_R hP _ v hv) aw_ rfl (fun _=>rfl) fun v56 h=>?_;cbv;obtain⟨r57,hm,h⟩:=Option.bind_eq_some_iff.1 h;refine .embL [0,1,2] (registry_Registry_Issue_R hP _ _ _ _ _ _ _ hm) mx fun sv0 own0 hq _=>?_;obtain⟨rfl,rfl⟩:=hq;clear hm;cbv;obtain rfl:=oj h;exact hKn1 _ _ _ rfl (.nz (.mtE [0,1,2,3] mx))
  obtain⟨titles52,at53,c54,p55⟩:=t;cbv;refine .g h (fun ((Serial58,Show59,Place60,First61,Chain62,gone63,q64):Int×Int×Int×ByteArray×(List Transfer)×Int×Int)=>[.top,.ptr 0 0,.top,oi a4,oi e5,.top,oi f9,oi at12,oi g16,oi b20,oi h21,.ptr 3 0,.top,oi i29,.top,.top,oi l36,oi m41,oi n46,oi o50,oi c54,oi p55,.ptr 4 0,oi gone63,oi q64]++rp 163 .top) (fun (Serial58,Show59,Place60,First61,Chain62,gone63,q64)=>[.cells [oi 2,oi 5,.hd 1,.hd 2] 74,.mp (.int .i64) true (WM (Value.int .i64) eEntry titles52),.mp (.int .i64) false (WM (Value.int .i64) eIi64 at53),.cells [oi Serial24,oi Show25,oi Place26,.d (.val (.string First27)),dq eTransfer Chain28] 35,.cells [oi Serial58,oi Show59,oi Place60,.d (.val (.string First61)),dq eTransfer Chain62] 35]) (fun y hm Kn1 hKn1=>?_) fun t h=>?_
  ·have h:=hm;clear hm;cbv;obtain⟨r65,hm,h⟩:=Option.bind_eq_some_iff.1 h;refine .embL [0,1,2] (registry_Registry_Title_R hP _ _ _ _ _ _ hm) mx fun sv0 own0 hq _=>?_;obtain⟨rfl,rfl⟩:=hq;clear hm;cbv;obtain rfl:=oj h;exact hKn1 _ _ _ rfl (.nz (.mtE [0,1,2,3,4] mx))
  obtain⟨Serial58,Show59,Place60,First61,Chain62,gone63,q64⟩:=t;cbv;refine .g h (fun (one66:Bool)=>[.top,.ptr 0 0]++rp 18 .top++[oi c54,oi p55,.ptr 3 0,oi gone63,oi q64,.d (.val (.pointer none)),ob one66]++rp 161 .top) (fun one66=>[.cells [oi 2,oi 5,.hd 1,.hd 2] 74,.mp (.int .i64) true (WM (Value.int .i64) eEntry titles52),.mp (.int .i64) false (WM (Value.int .i64) eIi64 at53),.cells [oi Serial58,oi Show59,oi Place60,.d (.val (.string First61)),dq eTransfer Chain62] 35]) (fun y hm Kn1 hKn1=>?_) fun t h=>?_
  ·have h:=hm;clear hm;cbv;refine brkG h ?_ ?_<;>intro h
   ·cbv;refine brkG h ?_ ?_<;>intro h
    ·cbv;refine brkG h ?_ ?_<;>intro h
     ·cbv;refine brkG h ?_ ?_<;>intro h
      ·cbv;refine brkG h ?_ ?_<;>intro h
       ·cbv;refine brkG h ?_ ?_<;>intro h
        ·cbv;refine brkG h ?_ ?_<;>intro h
         ·cbv;refine brkG h ?_ ?_<;>intro h
          ·cbv;refine brkG h ?_ ?_<;>intro h
           ·cbv;refine brkG h ?_ ?_<;>intro h
            ·cbv;refine brkG h ?_ ?_<;>intro h
             ·cbv;refine brkG h ?_ ?_<;>intro h
              ·cbv;obtain rfl:=oj h;exact hKn1 _ _ _ rfl (.nz (.mtE [0,1,2,4] mx))
              ·cbv;obtain rfl:=oj h;exact hKn1 _ _ _ rfl (.nz (.mtE [0,1,2,4] mx))
             ·cbv;obtain rfl:=oj h;exact hKn1 _ _ _ rfl (.nz (.mtE [0,1,2,4] mx))
            ·cbv;obtain rfl:=oj h;exact hKn1 _ _ _ rfl (.nz (.mtE [0,1,2,4] mx))
           ·cbv;obtain rfl:=oj h;exact hKn1 _ _ _ rfl (.nz (.mtE [0,1,2,4] mx))
          ·cbv;obtain rfl:=oj h;exact hKn1 _ _ _ rfl (.nz (.mtE [0,1,2,4] mx))
         ·cbv;obtain rfl:=oj h;exact hKn1 _ _ _ rfl (.nz (.mtE [0,1,2,4] mx))
        ·cbv;obtain rfl:=oj h;exact hKn1 _ _ _ rfl (.nz (.mtE [0,1,2,4] mx))
       ·cbv;obtain rfl:=oj h;exact hKn1 _ _ _ rfl (.nz (.mtE [0,1,2,4] mx))
      ·cbv;obtain rfl:=oj h;exact hKn1 _ _ _ rfl (.nz (.mtE [0,1,2,4] mx))
     ·cbv;obtain rfl:=oj h;exact hKn1 _ _ _ rfl (.nz (.mtE [0,1,2,4] mx))
    ·cbv;obtain rfl:=oj h;exact hKn1 _ _ _ rfl (.nz (.mtE [0,1,2,4] mx))
   ·cbv;obtain rfl:=oj h;exact hKn1 _ _ _ rfl (.nz (.mtE [0,1,2,4] mx))
  obtain⟨one66,rfl⟩:=ez t;cbv;refine brkG h ?_ ?_<;>intro h
  ·cbv;refine brkG h ?_ ?_<;>intro h
   ·cbv;refine brkG h ?_ ?_<;>intro h
    ·cbv;refine brkG h ?_ ?_<;>intro h
     ·cbv;refine brkG h ?_ ?_<;>intro h
      ·cbv;refine .g h (fun v hv=>title_Owner_R hP _ v hv) aw_ rfl (fun _=>rfl) fun v67 h=>?_;cbv;refine .g h (fun v hv=>digest_Sum_R hP _ v hv) aw_ rfl (fun _=>rfl) fun v68 h=>?_;cbv;refine brkG h ?_ ?_<;>intro h
       ·cbv;obtain⟨r69,hm,h⟩:=Option.bind_eq_some_iff.1 h;refine .embL [0,1,2] (registry_Registry_Revoked_R hP _ _ _ _ _ hm) mx fun sv0 own0 hq _=>?_;obtain⟨rfl,rfl⟩:=hq;clear hm;cbv;refine .g (e:=eIi64) h (W_cons aw_ (W_nil' _)) fun l70 h=>?_;cbv;refine .gl [] h (fun v hv=>ref11_Ints_R hP _ _ v hv) aw_ rfl fun v71 h=>?_;cbv;refine brkG h ?_ ?_<;>intro h
        ·cbv;obtain⟨hb,h⟩:=optN_no h;refine .emb [] (registry_New_no hP _ _ hb) mx fun sv0 own0 hq _=>?_;obtain⟨rfl,rfl⟩:=hq
         clear hb
         cbv;refine .g h (fun v hv=>registry_Registry_Revoke_nil_R hP _ _ v hv) aw_ rfl (fun _=>rfl) fun v72 h=>?_;cbv;obtain rfl:=oj h;exact hK _ _ aw_
        ·cbv;obtain rfl:=oj h;exact hK _ _ aw_
       ·cbv;obtain rfl:=oj h;exact hK _ _ aw_
      ·cbv;obtain rfl:=oj h;exact hK _ _ aw_
     ·cbv;obtain rfl:=oj h;exact hK _ _ aw_
    ·cbv;obtain rfl:=oj h;exact hK _ _ aw_
   ·cbv;obtain rfl:=oj h;exact hK _ _ aw_
  ·cbv;obtain rfl:=oj h;exact hK _ _ aw_
end Go.SX.Rg
