/- Parts of the proof. -/
import Derived.Test.YtlpempbeenpilaaGreatDoorZRgT
import Derived.Test.YtlpempbeenpilaaGreatDoorZRg46d
import Derived.Test.YtlpempbeenpilaaGreatDoorZRg33d
import Derived.Test.YtlpempbeenpilaaGreatDoorZRg17d
import Derived.Test.YtlpempbeenpilaaGreatDoorZRg30d
import Derived.Test.YtlpempbeenpilaaGreatDoorZRg65
import Derived.Test.YtlpempbeenpilaaGreatDoorZRg9
set_option linter.unusedSimpArgs false
set_option linter.unusedVariables false
set_option linter.unusedSectionVars false
namespace Go.SX.Rg
open Go Go.SX Go.Proofs
set_option maxRecDepth 100000
def c3r0 : List GOp:=gS 6 [.mv (cB false)]
def c3r1 : List GOp:=gS 29 [.call 9 []]++gS 7 [.mv 29]
def c3r2 : List GOp:=gS 30 [.mv 2,.call 10 [30],.un .not 31]
def c3r3 : List GOp:=gS 33 [.mv 7]++gS 6 [.mv 33]
def c3r4 : List GOp:=gS 34 [.mv 0,.mv 1,.call 11 [34,35]]++gS 8 [.mv 36]
def c3r5 : List GOp:=gS 37 [.mv 0,.mv 1,.call 12 [37,38]]++gS 9 [.mv 39]
def c3r6 : List GOp:=gS 40 [.mv 8,.pnil false 40,.mv 9,.pnil false 42,.beq true [] 41 43,.mv 44]++gQ 45 false 46 [.mv 1,.bin .gtr 46 (ci 50)]++gS 48 [.pick 45 (cB true) 47]
def c3r7 : List GOp:=gS 49 [.mv 7,.mv 49]++gQ 50 true 51 [.mv 8,.pnil false 51,.mv 9,.pnil false 53,.beq false [] 52 54]++gS 56 [.pick 50 55 (cB false)]++gS 6 [.mv 56]
def c3r8 : List GOp:=gS 57 [.mv 2,.call 13 [57]]++gS 10 [.mv 58]
def c3r9 : List GOp:=gS 11 [.mv (ci 0)]
def c3r10 : List GOp:=gS 59 [.mv 11,.mv 2,.len false 60,.bin .lss 59 61]
def c3r11 : List GOp:=gS 65 [.mv 2,.mv 11,.idxA 5 65 66,.load 5 true 67]++gS 12 [.alloc 32 (.agg #[oz,oz,oz,(.string ⟨#[]⟩),(.slice none 0 0)])]++[⟨none,.store 5 12 68,none⟩]
def c3r12 : List GOp:=gS 70 [.mv 8,.fadd 1 12,.load 1 false 71,.call 14 [70,72]]++gS 69 [.mv 73]++gS 74 [.ext 69 0,.ext 69 1,.ext 69 2]++gS 13 [.alloc 35 (.agg #[oz,oz,oz,(.string ⟨#[]⟩),(.slice none 0 0)])]++[⟨none,.store 5 13 74,none⟩]++gS 14 [.mv 75,.mv 76]
def c3r13 : List GOp:=gS 78 [.mv 8,.load 5 true 12,.mv 10,.call 15 [78,79,80]]++gS 77 [.mv 81]++gS 82 [.ext 77 0,.ext 77 1]++gS 16 [.mv 82,.mv 83]
def c3r14 : List GOp:=gS 18 [.mv (ci 0)]
def c3r15 : List GOp:=gS 19 [.mv (ci 0)]
def c3r16 : List GOp:=gS 84 [.fadd 0 12,.load 1 false 84]
def c3r17 : List GOp:=gS 95 [.bin .eql 85 (ci 0)]++gS 94 [.mv 95]
def c3r18 : List GOp:=gS 96 [.fadd 3 12,.load 1 false 96]++gS 20 [.mv 97]
def c3r19 : List GOp:=gS 98 [.mv 20,.bin .eql 98 (.const (.string ⟨#[]⟩))]
def c3r20 : List GOp:=gS 100 [.fadd 2 12,.load 1 false 100,.call 16 [101]]++gS 20 [.mv 102]
def c3r21 : List GOp:=gS 104 [.mv 9,.fadd 2 12,.load 1 false 105,.mv 20,.call 17 [104,106,107]]++gS 103 [.mv 108]++gS 109 [.ext 103 0,.ext 103 1]++gS 18 [.mv 109,.mv 110]
def c3r22 : List GOp:=gS 112 [.bin .eql 85 (ci 2)]++gS 111 [.mv 112]
def c3r23 : List GOp:=gS 113 [.mv 9,.fadd 1 12,.load 1 false 114,.fadd 2 12,.load 1 false 116,.call 18 [113,115,117]]++gS 19 [.mv 118]
def c3r24 : List GOp:=gS 120 [.bin .eql 85 (ci 3)]++gS 119 [.mv 120]
def c3r25 : List GOp:=gS 121 [.mv 9,.fadd 1 12,.load 1 false 122,.fadd 2 12,.load 1 false 124,.call 19 [121,123,125]]++gS 19 [.mv 126]
def c3r26 : List GOp:=gS 86 [.mv 9,.fadd 1 12,.load 1 false 87,.load 5 true 12,.load 5 true 13,.mv 10,.call 21 [89,90,91]]
def c3r26z : List GOp:=gS 93 [.call 20 [86,88,92]]++gS 19 [.mv 93]
def c3r27 : List GOp:=gS 127 [.mv 16,.mv 18,.bin .neq 127 128,.mv 129]++gQ 130 false 131 [.mv 17,.mv 19,.bin .neq 131 132]++gS 134 [.pick 130 (cB true) 133,.mv 134]++gQ 135 false 136 [.mv 8,.call 23 [136],.mv 9,.call 24 [138],.call 22 [137,139],.un .not 140]++gS 142 [.pick 135 (cB true) 141,.mv 142]++gQ 143 false 144 [.mv 8,.fadd 2 12,.load 1 false 145,.call 25 [144,146],.mv 9,.fadd 2 12,.load 1 false 149,.call 26 [148,150],.bin .neq 147 151]++gS 153 [.pick 143 (cB true) 152]
def c3r28 : List GOp:=gS 6 [.mv (cB false)]
def c3r29 : List GOp:=gS 21 [.mv (ci 1)]
def c3r30 : List GOp:=gS 154 [.mv 21,.mv 2,.len false 155,.bin .leq 154 156]
def c3r31 : List GOp:=gS 160 [.mv 0,.mm true 160 [(ci 0)],.bin .add 161 (ci 1),.bin .mul 162 (ci 10000),.mv 21,.bin .add 163 164]++gS 22 [.mv 165]
def c3r32 : List GOp:=gS 167 [.mv 8,.mv 22,.call 14 [167,168]]++gS 166 [.mv 169]++gS 170 [.ext 166 0,.ext 166 1,.ext 166 2]++gS 23 [.alloc 35 (.agg #[oz,oz,oz,(.string ⟨#[]⟩),(.slice none 0 0)])]++[⟨none,.store 5 23 170,none⟩]++gS 24 [.mv 171,.mv 172]
def c3r33 : List GOp:=gS 174 [.mv 9,.mv 22,.call 27 [174,175]]++gS 173 [.mv 176]++gS 177 [.ext 173 0,.ext 173 1,.ext 173 2]++gS 26 [.alloc 35 (.agg #[oz,oz,oz,(.string ⟨#[]⟩),(.slice none 0 0)])]++[⟨none,.store 5 26 177,none⟩]++gS 27 [.mv 178,.mv 179]
def c3r34 : List GOp:=gS 180 [.mv 25,.mv 28,.bin .neq 180 181,.mv 182]++gQ 183 false 184 [.mv 24,.mv 27,.bin .neq 184 185]++gS 187 [.pick 183 (cB true) 186,.mv 187]++gQ 188 false 189 [.load 5 true 23,.load 5 true 26,.call 28 [189,190],.un .not 191]++gS 193 [.pick 188 (cB true) 192]
def c3r35 : List GOp:=gS 6 [.mv (cB false)]
def c3r36 : List GOp:=gS 158 [.mv 21,.bin .add 158 (ci 1)]++gS 21 [.mv 159]
def c3l37 : DE:=.seq (.seq (.reg c3r30) (.cond 157 (.skip) (.exit 3))) (.seq (.block 4 (.seq (.reg c3r31) (.join (.reg c3r32) (.join (.reg c3r33) (.join (.reg c3r34) (.cond 193 (.seq (.reg c3r35) (.ret)) (.skip))))))) (.reg c3r36))
def c3r38 : List GOp:=gS 63 [.mv 11,.bin .add 63 (ci 1)]++gS 11 [.mv 64]
def c3l39 : DE:=.seq (.seq (.reg c3r10) (.cond 62 (.skip) (.exit 0))) (.join (.block 1 (.seq (.reg c3r11) (.join (.reg c3r12) (.join (.reg c3r13) (.seq (.reg c3r14) (.seq (.reg c3r15) (.join (.seq (.reg c3r16) (.block 2 (.seq (.reg c3r17) (.cond 94 (.seq (.reg c3r18) (.join (.seq (.reg c3r19) (.cond 99 (.reg c3r20) (.skip))) (.reg c3r21))) (.seq (.reg c3r22) (.cond 111 (.reg c3r23) (.seq (.reg c3r24) (.cond 119 (.reg c3r25) (.sfx false false false true c3r26 c3r26z))))))))) (.seq (.join (.par false false false true 24 c3r27) (.cond 153 (.seq (.reg c3r28) (.ret)) (.skip))) (.seq (.reg c3r29) (.block 3 (.loop c3l37))))))))))) (.reg c3r38))
def c3r40 : List GOp:=gS 194 [.mv 7]++gS 6 [.mv 194]
def c3 : EFn:=⟨195,.seq (.reg c3r0) (.seq (.reg c3r1) (.seq (.seq (.reg c3r2) (.cond 32 (.seq (.reg c3r3) (.ret)) (.skip))) (.seq (.reg c3r4) (.seq (.reg c3r5) (.seq (.join (.reg c3r6) (.cond 48 (.seq (.reg c3r7) (.ret)) (.skip))) (.seq (.reg c3r8) (.join (.seq (.reg c3r9) (.block 0 (.loop c3l39))) (.seq (.reg c3r40) (.ret))))))))),[.tmp 6]⟩
theorem c3_ok : compF Tryz.prog 3=some c3.er:=by kernel_rfl
set_option maxHeartbeats 4000000 in
theorem law32_RegistryMatchesReference_R {P:Program}(hP:P=Tryz.prog)(show_:Int)(places:Int)(l:(List Op))(r:Bool)(h:law32_RegistryMatchesReference_g show_ places l=some r):Fn1 P 3 [vIi64 show_,vIi64 places,vLOp l] (vB r):=by
 refine .walkE (hP▸c3_ok) fun K hK=>?_;unfold law32_RegistryMatchesReference_g at h;cbv;refine .g h (fun v hv=>law32_head_R hP v hv) aw_ rfl (fun _=>rfl) fun up1 h=>?_;cbv;refine .g h (fun v hv=>law32_few_R hP _ v hv) aw_ rfl (fun _=>rfl) fun v2 h=>?_;cbv;refine brkG h ?_ ?_<;>intro h
 ·cbv;obtain rfl:=oj h;exact hK _ _ aw_
 ·cbv
  rcases optN_cases h with ⟨hb,h⟩ | ⟨hb,h⟩
  ·cbv;refine .emb [] (registry_New_ok hP _ _ hb) mx fun sv0 own0 hq _=>?_;obtain⟨rfl,rfl⟩:=hq
   clear hb
   cbv;obtain⟨hb,h⟩:=optN_ok h;refine .emb [] (ref32_New_ok hP _ _ hb) mx fun sv0 own0 hq _=>?_;obtain⟨rfl,rfl⟩:=hq
   clear hb
   cbv;refine .g h (fun (v3:Bool)=>[oi show_,.top,dq eOp l]++rp 4 .top++[ob up1,.ptr 0 0,.ptr 3 0]++rp 38 .top++[ob v3]++rp 146 .top) (fun v3=>[.cells [oi show_,oi places,.hd 1,.hd 2] 74,.mp (.int .i64) true (WM (Value.int .i64) eEntry []),.mp (.int .i64) false (WM (Value.int .i64) eIi64 []),.cells [oi show_,oi places,.d (.sl (W eTitle ([]:(List Title)))),.d (.sl (W eIi64 ([]:(List Int))))] 76]) (fun y hm Kn1 hKn1=>?_) fun t h=>?_
   ·have h:=hm;clear hm;cbv;refine brkG h ?_ ?_<;>intro h
    ·cbv;obtain rfl:=oj h;exact hKn1 _ _ _ rfl (.nz (.mtE [0,1,2,3] mx))
    ·cbv;obtain rfl:=oj h;exact hKn1 _ _ _ rfl (.nz (.mtE [0,1,2,3] mx))
   obtain⟨v3,rfl⟩:=ez t;cbv;refine brkG h ?_ ?_<;>intro h
   ·cbv;refine brkG h ?_ ?_<;>intro h
    ·cbv;obtain rfl:=oj h;exact hK _ _ aw_
    ·cbv;obtain rfl:=oj h;exact hK _ _ aw_
   ·cbv;refine .g h (fun v hv=>law32_secrets_R hP _ v hv) aw_ rfl (fun _=>rfl) fun known4 h=>?_;cbv;refine .ga h (fun (_:Unit)=>rp 7 .top++[ob up1]++rp 187 .top) (fun _=>[]) (fun y hm hr1 Kn1 hKn1=>?_) fun t h=>?_
    ·have h:=hm;clear hm;cbv;refine .g h (fun ((titles5,at6,Titles7,Gone8,i9):(List (Int×Entry))×(List (Int×Int))×(List Title)×(List Int)×Int)=>[oi show_,.top,dq eOp l]++rp 4 .top++[ob up1,.ptr 0 0,.ptr 3 0,dq eS known4,oi i9]++rp 183 .top) (fun (titles5,at6,Titles7,Gone8,i9)=>[.cells [oi show_,oi places,.hd 1,.hd 2] 74,.mp (.int .i64) true (WM (Value.int .i64) eEntry titles5),.mp (.int .i64) false (WM (Value.int .i64) eIi64 at6),.cells [oi show_,oi places,dq eTitle Titles7,dq eIi64 Gone8] 76]) (.nz (.mtE [0,1,2,3] ?_)) fun s x h hr2 Kn2 hKn2=>?_
     ·exact mx
     unfold law32_RegistryMatchesReference_l12 at h;obtain⟨titles5,at6,Titles7,Gone8,i9⟩:=s;cbv;refine brkG h ?_ ?_<;>intro h
     ·cbv;refine .ga h (fun ((titles10,at11,Titles12,Gone13):(List (Int×Entry))×(List (Int×Int))×(List Title)×(List Int))=>[oi show_,.top,dq eOp l]++rp 4 .top++[ob up1,.ptr 0 0,.ptr 3 0,dq eS known4,oi i9]++rp 183 .top) (fun (titles10,at11,Titles12,Gone13)=>[.cells [oi show_,oi places,.hd 1,.hd 2] 74,.mp (.int .i64) true (WM (Value.int .i64) eEntry titles10),.mp (.int .i64) false (WM (Value.int .i64) eIi64 at11),.cells [oi show_,oi places,dq eTitle Titles12,dq eIi64 Gone13] 76]) (fun y hm hr3 Kn3 hKn3=>?_) fun t h=>?_
      ·have h:=hm;clear hm;cbv;refine .g h (fun _=>rfl) fun x14 h=>?_;cbv;refine .g h (fun ((Serial15,Show16,Place17,First18,Chain19):Int×Int×Int×ByteArray×(List Transfer))=>[oi show_,.top,dq eOp l]++rp 4 .top++[ob up1,.ptr 0 0,.ptr 3 0,dq eS known4,oi i9,.ptr 4 0,.ptr 5 0]++rp 181 .top) (fun (Serial15,Show16,Place17,First18,Chain19)=>[.cells [oi show_,oi places,.hd 1,.hd 2] 74,.mp (.int .i64) true (WM (Value.int .i64) eEntry titles5),.mp (.int .i64) false (WM (Value.int .i64) eIi64 at6),.cells [oi show_,oi places,dq eTitle Titles7,dq eIi64 Gone8] 76,.cells [oi x14.Kind,oi x14.Serial,oi x14.At,.d (.val (.string x14.Key)),dq eS x14.Sig] 32,.cells [oi Serial15,oi Show16,oi Place17,.d (.val (.string First18)),dq eTransfer Chain19] 35]) (fun y hm Kn4 hKn4=>?_) fun t h=>?_
       ·have h:=hm;clear hm;cbv;obtain⟨r20,hm,h⟩:=Option.bind_eq_some_iff.1 h;refine .embL [0,1,2] (registry_Registry_Title_R hP _ _ _ _ _ _ hm) mx fun sv0 own0 hq _=>?_;obtain⟨rfl,rfl⟩:=hq;clear hm;cbv;obtain rfl:=oj h;exact hKn4 _ _ _ rfl (.nz (.mtE [0,1,2,3,4,5] mx))
       obtain⟨Serial15,Show16,Place17,First18,Chain19⟩:=t;cbv;refine .g h (fun ((titles21,at22,n23,e24):(List (Int×Entry))×(List (Int×Int))×Int×Int)=>[oi show_,.top,dq eOp l]++rp 4 .top++[ob up1,.ptr 0 0,.ptr 3 0,dq eS known4,oi i9,.ptr 4 0,.ptr 5 0,.top,.top,oi n23,oi e24]++rp 177 .top) (fun (titles21,at22,n23,e24)=>[.cells [oi show_,oi places,.hd 1,.hd 2] 74,.mp (.int .i64) true (WM (Value.int .i64) eEntry titles21),.mp (.int .i64) false (WM (Value.int .i64) eIi64 at22),.cells [oi show_,oi places,dq eTitle Titles7,dq eIi64 Gone8] 76,.cells [oi x14.Kind,oi x14.Serial,oi x14.At,.d (.val (.string x14.Key)),dq eS x14.Sig] 32,.cells [oi Serial15,oi Show16,oi Place17,.d (.val (.string First18)),dq eTransfer Chain19] 35]) (fun y hm Kn4 hKn4=>?_) fun t h=>?_
       ·have h:=hm;clear hm;cbv;obtain⟨r25,hm,h⟩:=Option.bind_eq_some_iff.1 h;refine .embL [0,1,2] (law32_do_R hP _ _ _ _ _ _ _ hm) mx fun sv0 own0 hq _=>?_;obtain⟨rfl,rfl⟩:=hq;clear hm;cbv;obtain rfl:=oj h;exact hKn4 _ _ _ rfl (.nz (.mtE [0,1,2,3,4,5] mx))
       obtain⟨titles21,at22,n23,e24⟩:=t;cbv;refine .g h (fun ((Titles26,Gone27,m28,f29):(List Title)×(List Int)×Int×Int)=>[oi show_,.top,dq eOp l]++rp 4 .top++[ob up1,.ptr 0 0,.ptr 3 0,dq eS known4,oi i9,.ptr 4 0]++rp 3 .top++[oi n23,oi e24,oi m28,oi f29]++rp 175 .top) (fun (Titles26,Gone27,m28,f29)=>[.cells [oi show_,oi places,.hd 1,.hd 2] 74,.mp (.int .i64) true (WM (Value.int .i64) eEntry titles21),.mp (.int .i64) false (WM (Value.int .i64) eIi64 at22),.cells [oi show_,oi places,dq eTitle Titles26,dq eIi64 Gone27] 76,.cells [oi x14.Kind,oi x14.Serial,oi x14.At,.d (.val (.string x14.Key)),dq eS x14.Sig] 32]) (fun y hm Kn4 hKn4=>?_) fun t h=>?_
       ·have h:=hm;clear hm;cbv;refine brkG h ?_ ?_<;>intro h
        ·cbv;refine .g h (fun (key30:ByteArray)=>[oi show_,.top,dq eOp l]++rp 4 .top++[ob up1,.ptr 0 0,.ptr 3 0,dq eS known4,oi i9,.ptr 4 0]++rp 3 .top++[oi n23,oi e24,.top,.top,.d (.val (.string key30))]++rp 174 .top) (fun key30=>[.cells [oi show_,oi places,.hd 1,.hd 2] 74,.mp (.int .i64) true (WM (Value.int .i64) eEntry titles21),.mp (.int .i64) false (WM (Value.int .i64) eIi64 at22),.cells [oi show_,oi places,dq eTitle Titles7,dq eIi64 Gone8] 76,.cells [oi x14.Kind,oi x14.Serial,oi x14.At,.d (.val (.string x14.Key)),dq eS x14.Sig] 32]) (fun y hm Kn5 hKn5=>?_) fun t h=>?_
         ·have h:=hm;clear hm;cbv;refine brkG h ?_ ?_<;>intro h
          ·cbv;refine .inl (hP▸c16_ok) ?_;cbv;refine .g h (fun v hv=>ref02_Decimal_R hP _ v hv) aw_ rfl (fun _=>rfl) fun v31 h=>?_;cbv;refine .g h fun h=>?_;cbv;refine .g h (fun v hv=>law32_secret_R hP _ v hv) aw_ rfl (fun _=>rfl) fun v32 h=>?_;cbv;refine .g h (fun v hv=>sign_Public_R hP _ v hv) aw_ rfl (fun _=>rfl) fun l33 h=>?_;cbv;obtain rfl:=oj h;exact hKn5 _ _ _ rfl (.nz (.mtE [0,1,2,3,4] mx))
          ·cbv;obtain rfl:=oj h;exact hKn5 _ _ _ rfl (.nz (.mtE [0,1,2,3,4] mx))
         obtain⟨key30,rfl⟩:=ez t;cbv;obtain⟨r34,hm,h⟩:=Option.bind_eq_some_iff.1 h;refine .embL [3] (ref32_Registry_Issue_R hP _ _ _ _ _ _ _ hm) mx fun sv0 own0 hq _=>?_;obtain⟨rfl,rfl⟩:=hq;clear hm;cbv;obtain rfl:=oj h;exact hKn4 _ _ _ rfl (.nz (.mtE [0,1,2,3,4] mx))
        ·cbv;refine brkG h ?_ ?_<;>intro h
         ·cbv;obtain⟨r35,hm,h⟩:=Option.bind_eq_some_iff.1 h;refine .embL [3] (ref32_Registry_Revoke_R hP _ _ _ _ _ _ _ hm) mx fun sv0 own0 hq _=>?_;obtain⟨rfl,rfl⟩:=hq;clear hm;cbv;obtain rfl:=oj h;exact hKn4 _ _ _ rfl (.nz (.mtE [0,1,2,3,4] mx))
         ·cbv;refine brkG h ?_ ?_<;>intro h
          ·cbv;obtain⟨r36,hm,h⟩:=Option.bind_eq_some_iff.1 h;refine .embL [3] (ref32_Registry_Move_R hP _ _ _ _ _ _ _ hm) mx fun sv0 own0 hq _=>?_;obtain⟨rfl,rfl⟩:=hq;clear hm;cbv;obtain rfl:=oj h;exact hKn4 _ _ _ rfl (.nz (.mtE [0,1,2,3,4] mx))
          ·cbv;refine .g h (fun v hv=>law32_transfer_R hP _ _ _ v hv) aw_ rfl (fun _=>rfl) fun v37 h=>?_;cbv;obtain⟨r38,hm,h⟩:=Option.bind_eq_some_iff.1 h;refine .embL [3] (ref32_Registry_Pass_R hP _ _ _ _ _ _ _ hm) mx fun sv0 own0 hq _=>?_;obtain⟨rfl,rfl⟩:=hq;clear hm;cbv;obtain rfl:=oj h;exact hKn4 _ _ _ rfl (.nz (.mtE [0,1,2,3,4] mx))
       obtain⟨Titles26,Gone27,m28,f29⟩:=t;cbv;refine .g h (fun (v39:Bool)=>[oi show_,.top,dq eOp l]++rp 4 .top++[ob up1,.ptr 0 0,.ptr 3 0,dq eS known4,oi i9]++rp 141 .top++[ob v39]++rp 41 .top) (fun v39=>[.cells [oi show_,oi places,.hd 1,.hd 2] 74,.mp (.int .i64) true (WM (Value.int .i64) eEntry titles21),.mp (.int .i64) false (WM (Value.int .i64) eIi64 at22),.cells [oi show_,oi places,dq eTitle Titles26,dq eIi64 Gone27] 76]) (fun y hm Kn4 hKn4=>?_) fun t h=>?_
       ·have h:=hm;clear hm;cbv;refine brkG h ?_ ?_<;>intro h
        ·cbv;obtain rfl:=oj h;exact hKn4 _ _ _ rfl (.nz (.mtE [0,1,2,3] mx))
        ·cbv;refine brkG h ?_ ?_<;>intro h
         ·cbv;obtain rfl:=oj h;exact hKn4 _ _ _ rfl (.nz (.mtE [0,1,2,3] mx))
         ·cbv;obtain⟨r40,hm,h⟩:=Option.bind_eq_some_iff.1 h;refine .embR [0,1,2] (registry_Registry_Revoked_R hP _ _ _ _ _ hm) mx rfl rfl rfl ?_;clear hm;cbv;obtain⟨r41,hm,h⟩:=Option.bind_eq_some_iff.1 h;refine .embR [3] (ref32_Registry_Revoked_R hP _ _ _ _ _ hm) mx rfl rfl rfl ?_;clear hm;cbv;refine .g h (fun v hv=>ref11_Ints_R hP _ _ v hv) aw_ rfl (fun _=>rfl) fun v42 h=>?_;cbv;refine brkG h ?_ ?_<;>intro h
          ·cbv;obtain rfl:=oj h;exact hKn4 _ _ _ rfl (.nz (.mtE [0,1,2,3] mx))
          ·cbv;obtain⟨r43,hm,h⟩:=Option.bind_eq_some_iff.1 h;refine .embR [0,1,2] (registry_Registry_At_R hP _ _ _ _ _ _ hm) mx rfl rfl rfl ?_;clear hm;cbv;obtain⟨r44,hm,h⟩:=Option.bind_eq_some_iff.1 h;refine .embR [3] (ref32_Registry_At_R hP _ _ _ _ _ _ hm) mx rfl rfl rfl ?_;clear hm;cbv;obtain rfl:=oj h;exact hKn4 _ _ _ rfl (.nz (.mtE [0,1,2,3] mx))
       obtain⟨v39,rfl⟩:=ez t;cbv;refine brkG h ?_ ?_<;>intro h
       ·cbv;obtain rfl:=oj h;obtain rfl:=hr3 _ rfl;obtain rfl:=hr2 _ rfl;obtain rfl:=hr1 _ rfl;exact hK _ _ aw_
       ·cbv;refine .g h (fun (k45:Int)=>[oi show_,.top,dq eOp l]++rp 4 .top++[ob up1,.ptr 0 0,.ptr 3 0,dq eS known4,oi i9]++rp 9 .top++[oi k45]++rp 173 .top) (fun k45=>[.cells [oi show_,oi places,.hd 1,.hd 2] 74,.mp (.int .i64) true (WM (Value.int .i64) eEntry titles21),.mp (.int .i64) false (WM (Value.int .i64) eIi64 at22),.cells [oi show_,oi places,dq eTitle Titles26,dq eIi64 Gone27] 76]) (.nz (.mtE [0,1,2,3] ?_)) fun s x h hr4 Kn4 hKn4=>?_
        ·exact mx
        unfold law32_RegistryMatchesReference_l14 at h;obtain⟨k45,rfl⟩:=ez s;cbv;refine brkG h ?_ ?_<;>intro h
        ·cbv;refine .g h (fun ((Serial46,Show47,Place48,First49,Chain50,g51,a52):Int×Int×Int×ByteArray×(List Transfer)×Int×Int)=>[oi show_,.top,dq eOp l]++rp 4 .top++[ob up1,.ptr 0 0,.ptr 3 0,dq eS known4,oi i9]++rp 9 .top++[oi k45,oi (io.ar .add .i64 (io.ar .mul .i64 (io.ar .add .i64 (io.mm true show_ 0) 1) 10000) k45),.ptr 4 0,oi g51,oi a52]++rp 169 .top) (fun (Serial46,Show47,Place48,First49,Chain50,g51,a52)=>[.cells [oi show_,oi places,.hd 1,.hd 2] 74,.mp (.int .i64) true (WM (Value.int .i64) eEntry titles21),.mp (.int .i64) false (WM (Value.int .i64) eIi64 at22),.cells [oi show_,oi places,dq eTitle Titles26,dq eIi64 Gone27] 76,.cells [oi Serial46,oi Show47,oi Place48,.d (.val (.string First49)),dq eTransfer Chain50] 35]) (fun y hm Kn5 hKn5=>?_) fun t h=>?_
         ·have h:=hm;clear hm;cbv;obtain⟨r53,hm,h⟩:=Option.bind_eq_some_iff.1 h;refine .embL [0,1,2] (registry_Registry_Title_R hP _ _ _ _ _ _ hm) mx fun sv0 own0 hq _=>?_;obtain⟨rfl,rfl⟩:=hq;clear hm;cbv;obtain rfl:=oj h;exact hKn5 _ _ _ rfl (.nz (.mtE [0,1,2,3,4] mx))
         obtain⟨Serial46,Show47,Place48,First49,Chain50,g51,a52⟩:=t;cbv;refine .g h (fun ((Serial54,Show55,Place56,First57,Chain58,h59,b60):Int×Int×Int×ByteArray×(List Transfer)×Int×Int)=>[oi show_,.top,dq eOp l]++rp 4 .top++[ob up1,.ptr 0 0,.ptr 3 0,dq eS known4,oi i9]++rp 9 .top++[oi k45,.top,.ptr 4 0,oi g51,oi a52,.ptr 5 0,oi h59,oi b60]++rp 166 .top) (fun (Serial54,Show55,Place56,First57,Chain58,h59,b60)=>[.cells [oi show_,oi places,.hd 1,.hd 2] 74,.mp (.int .i64) true (WM (Value.int .i64) eEntry titles21),.mp (.int .i64) false (WM (Value.int .i64) eIi64 at22),.cells [oi show_,oi places,dq eTitle Titles26,dq eIi64 Gone27] 76,.cells [oi Serial46,oi Show47,oi Place48,.d (.val (.string First49)),dq eTransfer Chain50] 35,.cells [oi Serial54,oi Show55,oi Place56,.d (.val (.string First57)),dq eTransfer Chain58] 35]) (fun y hm Kn5 hKn5=>?_) fun t h=>?_
         ·have h:=hm;clear hm;cbv;obtain⟨r61,hm,h⟩:=Option.bind_eq_some_iff.1 h;refine .embL [3] (ref32_Registry_Title_R hP _ _ _ _ _ _ hm) mx fun sv0 own0 hq _=>?_;obtain⟨rfl,rfl⟩:=hq;clear hm;cbv;obtain rfl:=oj h;exact hKn5 _ _ _ rfl (.nz (.mtE [0,1,2,3,4,5] mx))
         obtain⟨Serial54,Show55,Place56,First57,Chain58,h59,b60⟩:=t;cbv;refine .g h (fun (v62:Bool)=>[oi show_,.top,dq eOp l]++rp 4 .top++[ob up1,.ptr 0 0,.ptr 3 0,dq eS known4,oi i9]++rp 9 .top++[oi k45]++rp 171 .top++[ob v62,.top]) (fun v62=>[.cells [oi show_,oi places,.hd 1,.hd 2] 74,.mp (.int .i64) true (WM (Value.int .i64) eEntry titles21),.mp (.int .i64) false (WM (Value.int .i64) eIi64 at22),.cells [oi show_,oi places,dq eTitle Titles26,dq eIi64 Gone27] 76]) (fun y hm Kn5 hKn5=>?_) fun t h=>?_
         ·have h:=hm;clear hm;cbv;refine brkG h ?_ ?_<;>intro h
          ·cbv;obtain rfl:=oj h;exact hKn5 _ _ _ rfl (.nz (.mtE [0,1,2,3] mx))
          ·cbv;refine brkG h ?_ ?_<;>intro h
           ·cbv;obtain rfl:=oj h;exact hKn5 _ _ _ rfl (.nz (.mtE [0,1,2,3] mx))
           ·cbv;refine .g h (fun v hv=>ref30_Same_R hP _ _ v hv) aw_ rfl (fun _=>rfl) fun v63 h=>?_;cbv;obtain rfl:=oj h;exact hKn5 _ _ _ rfl (.nz (.mtE [0,1,2,3] mx))
         obtain⟨v62,rfl⟩:=ez t;cbv;refine brkG h ?_ ?_<;>intro h
         ·cbv;obtain rfl:=oj h;obtain rfl:=hr4 _ rfl;obtain rfl:=hr3 _ rfl;obtain rfl:=hr2 _ rfl;obtain rfl:=hr1 _ rfl;exact hK _ _ aw_
         ·cbv;obtain rfl:=oj h;exact hKn4 _ _ _ rfl (.nz (.mtE [0,1,2,3] mx))
        ·cbv;obtain rfl:=oj h;obtain rfl:=hr4 _ rfl;exact hKn3 _ _ _ rfl (.nz (.mtE [0,1,2,3] mx))
      obtain⟨titles10,at11,Titles12,Gone13⟩:=t;cbv;obtain rfl:=oj h;exact hKn2 _ _ _ rfl (.nz (.mtE [0,1,2,3] mx))
     ·cbv;obtain rfl:=oj h;obtain rfl:=hr2 _ rfl;exact hKn1 _ _ _ rfl (.nz (.mtE [] mx))
    cbv;obtain rfl:=oj h;exact hK _ _ aw_
  ·cbv;refine .emb [] (registry_New_no hP _ _ hb) mx fun sv0 own0 hq _=>?_;obtain⟨rfl,rfl⟩:=hq
   clear hb
   cbv;obtain⟨hb,h⟩:=optN_no h;refine .emb [] (ref32_New_no hP _ _ hb) mx fun sv0 own0 hq _=>?_;obtain⟨rfl,rfl⟩:=hq
   clear hb
   cbv;refine .g h (fun (v64:Bool)=>[oi show_,.top,dq eOp l]++rp 4 .top++[ob up1,.d (.val (.pointer none)),.d (.val (.pointer none))]++rp 38 .top++[ob v64]++rp 146 .top) (fun v64=>[]) (fun y hm Kn1 hKn1=>?_) fun t h=>?_
   ·have h:=hm;clear hm;cbv;refine brkG h ?_ ?_<;>intro h
    ·cbv;obtain rfl:=oj h;exact hKn1 _ _ _ rfl (.nz (.mtE [] mx))
    ·cbv;obtain rfl:=oj h;exact hKn1 _ _ _ rfl (.nz (.mtE [] mx))
   obtain⟨v64,rfl⟩:=ez t;cbv;refine brkG h ?_ ?_<;>intro h
   ·cbv;refine brkG h ?_ ?_<;>intro h
    ·cbv;obtain rfl:=oj h;exact hK _ _ aw_
    ·cbv;obtain rfl:=oj h;exact hK _ _ aw_
   ·cbv;refine .g h (fun v hv=>law32_secrets_R hP _ v hv) aw_ rfl (fun _=>rfl) fun known65 h=>?_;cbv;refine .ga h (fun (_:Unit)=>rp 7 .top++[ob up1]++rp 187 .top) (fun _=>[]) (fun y hm hr1 Kn1 hKn1=>?_) fun t h=>?_
    ·have h:=hm;clear hm;cbv;refine .g h (fun (i66:Int)=>[oi show_,.top,dq eOp l]++rp 4 .top++[ob up1,.d (.val (.pointer none)),.d (.val (.pointer none)),dq eS known65,oi i66]++rp 183 .top) (fun i66=>[]) (.nz (.mtE [] ?_)) fun s x h hr2 Kn2 hKn2=>?_
     ·exact mx
     unfold law32_RegistryMatchesReference_l26 at h;obtain⟨i66,rfl⟩:=ez s;cbv;refine brkG h ?_ ?_<;>intro h
     ·cbv;refine .ga h (fun (_:Unit)=>[oi show_,.top,dq eOp l]++rp 4 .top++[ob up1,.d (.val (.pointer none)),.d (.val (.pointer none)),dq eS known65,oi i66]++rp 183 .top) (fun _=>[]) (fun y hm hr3 Kn3 hKn3=>?_) fun t h=>?_
      ·have h:=hm;clear hm;cbv;refine .g h (fun _=>rfl) fun x67 h=>?_;cbv;refine .g h (fun ((Serial68,Show69,Place70,First71,Chain72):Int×Int×Int×ByteArray×(List Transfer))=>[oi show_,.top,dq eOp l]++rp 4 .top++[ob up1,.d (.val (.pointer none)),.d (.val (.pointer none)),dq eS known65,oi i66,.ptr 0 0,.ptr 1 0]++rp 181 .top) (fun (Serial68,Show69,Place70,First71,Chain72)=>[.cells [oi x67.Kind,oi x67.Serial,oi x67.At,.d (.val (.string x67.Key)),dq eS x67.Sig] 32,.cells [oi Serial68,oi Show69,oi Place70,.d (.val (.string First71)),dq eTransfer Chain72] 35]) (fun y hm Kn4 hKn4=>?_) fun t h=>?_
       ·have h:=hm;clear hm;cbv;refine .g h (fun v hv=>registry_Registry_Title_nil_R hP _ v hv) aw_ rfl (fun _=>rfl) fun v73 h=>?_;cbv;obtain rfl:=oj h;exact hKn4 _ _ _ rfl (.nz (.mtE [0,1] mx))
       obtain⟨Serial68,Show69,Place70,First71,Chain72⟩:=t;cbv;refine .g h (fun ((n74,e75):Int×Int)=>[oi show_,.top,dq eOp l]++rp 4 .top++[ob up1,.d (.val (.pointer none)),.d (.val (.pointer none)),dq eS known65,oi i66,.ptr 0 0,.ptr 1 0,.top,.top,oi n74,oi e75]++rp 177 .top) (fun (n74,e75)=>[.cells [oi x67.Kind,oi x67.Serial,oi x67.At,.d (.val (.string x67.Key)),dq eS x67.Sig] 32,.cells [oi Serial68,oi Show69,oi Place70,.d (.val (.string First71)),dq eTransfer Chain72] 35]) (fun y hm Kn4 hKn4=>?_) fun t h=>?_
       ·have h:=hm;clear hm;cbv;refine .g h (fun v hv=>law32_do_nil_R hP _ _ v hv) aw_ rfl (fun _=>rfl) fun v76 h=>?_;cbv;obtain rfl:=oj h;exact hKn4 _ _ _ rfl (.nz (.mtE [0,1] mx))
       obtain⟨n74,e75⟩:=t;cbv;refine .g h (fun ((m77,f78):Int×Int)=>[oi show_,.top,dq eOp l]++rp 4 .top++[ob up1,.d (.val (.pointer none)),.d (.val (.pointer none)),dq eS known65,oi i66,.ptr 0 0]++rp 3 .top++[oi n74,oi e75,oi m77,oi f78]++rp 175 .top) (fun (m77,f78)=>[.cells [oi x67.Kind,oi x67.Serial,oi x67.At,.d (.val (.string x67.Key)),dq eS x67.Sig] 32]) (fun y hm Kn4 hKn4=>?_) fun t h=>?_
       ·have h:=hm;clear hm;cbv;refine brkG h ?_ ?_<;>intro h
        ·cbv;refine .g h (fun (key79:ByteArray)=>[oi show_,.top,dq eOp l]++rp 4 .top++[ob up1,.d (.val (.pointer none)),.d (.val (.pointer none)),dq eS known65,oi i66,.ptr 0 0]++rp 3 .top++[oi n74,oi e75,.top,.top,.d (.val (.string key79))]++rp 174 .top) (fun key79=>[.cells [oi x67.Kind,oi x67.Serial,oi x67.At,.d (.val (.string x67.Key)),dq eS x67.Sig] 32]) (fun y hm Kn5 hKn5=>?_) fun t h=>?_
         ·have h:=hm;clear hm;cbv;refine brkG h ?_ ?_<;>intro h
          ·cbv;refine .inl (hP▸c16_ok) ?_;cbv;refine .g h (fun v hv=>ref02_Decimal_R hP _ v hv) aw_ rfl (fun _=>rfl) fun v80 h=>?_;cbv;refine .g h fun h=>?_;cbv;refine .g h (fun v hv=>law32_secret_R hP _ v hv) aw_ rfl (fun _=>rfl) fun v81 h=>?_;cbv;refine .g h (fun v hv=>sign_Public_R hP _ v hv) aw_ rfl (fun _=>rfl) fun l82 h=>?_;cbv;obtain rfl:=oj h;exact hKn5 _ _ _ rfl (.nz (.mtE [0] mx))
          ·cbv;obtain rfl:=oj h;exact hKn5 _ _ _ rfl (.nz (.mtE [0] mx))
         obtain⟨key79,rfl⟩:=ez t;cbv;refine .g h (fun v hv=>ref32_Registry_Issue_nil_R hP _ _ v hv) aw_ rfl (fun _=>rfl) fun v83 h=>?_;cbv;obtain rfl:=oj h;exact hKn4 _ _ _ rfl (.nz (.mtE [0] mx))
        ·cbv;refine brkG h ?_ ?_<;>intro h
         ·cbv;refine .g h (fun v hv=>ref32_Registry_Revoke_nil_R hP _ _ v hv) aw_ rfl (fun _=>rfl) fun f84 h=>?_;cbv;obtain rfl:=oj h;exact hKn4 _ _ _ rfl (.nz (.mtE [0] mx))
         ·cbv;refine brkG h ?_ ?_<;>intro h
          ·cbv;refine .g h (fun v hv=>ref32_Registry_Move_nil_R hP _ _ v hv) aw_ rfl (fun _=>rfl) fun f85 h=>?_;cbv;obtain rfl:=oj h;exact hKn4 _ _ _ rfl (.nz (.mtE [0] mx))
          ·cbv;refine .g h (fun v hv=>law32_transfer_R hP _ _ _ v hv) aw_ rfl (fun _=>rfl) fun v86 h=>?_;cbv;refine .g h (fun v hv=>ref32_Registry_Pass_nil_R hP _ _ v hv) aw_ rfl (fun _=>rfl) fun f87 h=>?_;cbv;obtain rfl:=oj h;exact hKn4 _ _ _ rfl (.nz (.mtE [0] mx))
       obtain⟨m77,f78⟩:=t;cbv;refine .g h (fun (v88:Bool)=>[oi show_,.top,dq eOp l]++rp 4 .top++[ob up1,.d (.val (.pointer none)),.d (.val (.pointer none)),dq eS known65,oi i66]++rp 141 .top++[ob v88]++rp 41 .top) (fun v88=>[]) (fun y hm Kn4 hKn4=>?_) fun t h=>?_
       ·have h:=hm;clear hm;cbv;refine brkG h ?_ ?_<;>intro h
        ·cbv;obtain rfl:=oj h;exact hKn4 _ _ _ rfl (.nz (.mtE [] mx))
        ·cbv;refine brkG h ?_ ?_<;>intro h
         ·cbv;obtain rfl:=oj h;exact hKn4 _ _ _ rfl (.nz (.mtE [] mx))
         ·cbv;refine .g h (fun v hv=>registry_Registry_Revoked_nil_R hP v hv) aw_ rfl (fun _=>rfl) fun v89 h=>?_;cbv;refine .g h (fun v hv=>ref32_Registry_Revoked_nil_R hP v hv) aw_ rfl (fun _=>rfl) fun v90 h=>?_;cbv;refine .g h (fun v hv=>ref11_Ints_R hP _ _ v hv) aw_ rfl (fun _=>rfl) fun v91 h=>?_;cbv;refine brkG h ?_ ?_<;>intro h
          ·cbv;obtain rfl:=oj h;exact hKn4 _ _ _ rfl (.nz (.mtE [] mx))
          ·cbv;refine .g h (fun v hv=>registry_Registry_At_nil_R hP _ v hv) aw_ rfl (fun _=>rfl) fun v92 h=>?_;cbv;refine .g h (fun v hv=>ref32_Registry_At_nil_R hP _ v hv) aw_ rfl (fun _=>rfl) fun v93 h=>?_;cbv;obtain rfl:=oj h;exact hKn4 _ _ _ rfl (.nz (.mtE [] mx))
       obtain⟨v88,rfl⟩:=ez t;cbv;refine brkG h ?_ ?_<;>intro h
       ·cbv;obtain rfl:=oj h;obtain rfl:=hr3 _ rfl;obtain rfl:=hr2 _ rfl;obtain rfl:=hr1 _ rfl;exact hK _ _ aw_
       ·cbv;refine .g h (fun (k94:Int)=>[oi show_,.top,dq eOp l]++rp 4 .top++[ob up1,.d (.val (.pointer none)),.d (.val (.pointer none)),dq eS known65,oi i66]++rp 9 .top++[oi k94]++rp 173 .top) (fun k94=>[]) (.nz (.mtE [] ?_)) fun s x h hr4 Kn4 hKn4=>?_
        ·exact mx
        unfold law32_RegistryMatchesReference_l28 at h;obtain⟨k94,rfl⟩:=ez s;cbv;refine brkG h ?_ ?_<;>intro h
        ·cbv;refine .g h (fun ((Serial95,Show96,Place97,First98,Chain99,g100,a101):Int×Int×Int×ByteArray×(List Transfer)×Int×Int)=>[oi show_,.top,dq eOp l]++rp 4 .top++[ob up1,.d (.val (.pointer none)),.d (.val (.pointer none)),dq eS known65,oi i66]++rp 9 .top++[oi k94,oi (io.ar .add .i64 (io.ar .mul .i64 (io.ar .add .i64 (io.mm true show_ 0) 1) 10000) k94),.ptr 0 0,oi g100,oi a101]++rp 169 .top) (fun (Serial95,Show96,Place97,First98,Chain99,g100,a101)=>[.cells [oi Serial95,oi Show96,oi Place97,.d (.val (.string First98)),dq eTransfer Chain99] 35]) (fun y hm Kn5 hKn5=>?_) fun t h=>?_
         ·have h:=hm;clear hm;cbv;refine .g h (fun v hv=>registry_Registry_Title_nil_R hP _ v hv) aw_ rfl (fun _=>rfl) fun v102 h=>?_;cbv;obtain rfl:=oj h;exact hKn5 _ _ _ rfl (.nz (.mtE [0] mx))
         obtain⟨Serial95,Show96,Place97,First98,Chain99,g100,a101⟩:=t;cbv;refine .g h (fun ((Serial103,Show104,Place105,First106,Chain107,h108,b109):Int×Int×Int×ByteArray×(List Transfer)×Int×Int)=>[oi show_,.top,dq eOp l]++rp 4 .top++[ob up1,.d (.val (.pointer none)),.d (.val (.pointer none)),dq eS known65,oi i66]++rp 9 .top++[oi k94,.top,.ptr 0 0,oi g100,oi a101,.ptr 1 0,oi h108,oi b109]++rp 166 .top) (fun (Serial103,Show104,Place105,First106,Chain107,h108,b109)=>[.cells [oi Serial95,oi Show96,oi Place97,.d (.val (.string First98)),dq eTransfer Chain99] 35,.cells [oi Serial103,oi Show104,oi Place105,.d (.val (.string First106)),dq eTransfer Chain107] 35]) (fun y hm Kn5 hKn5=>?_) fun t h=>?_
         ·have h:=hm;clear hm;cbv;refine .g h (fun v hv=>ref32_Registry_Title_nil_R hP _ v hv) aw_ rfl (fun _=>rfl) fun v110 h=>?_;cbv;obtain rfl:=oj h;exact hKn5 _ _ _ rfl (.nz (.mtE [0,1] mx))
         obtain⟨Serial103,Show104,Place105,First106,Chain107,h108,b109⟩:=t;cbv;refine .g h (fun (v111:Bool)=>[oi show_,.top,dq eOp l]++rp 4 .top++[ob up1,.d (.val (.pointer none)),.d (.val (.pointer none)),dq eS known65,oi i66]++rp 9 .top++[oi k94]++rp 171 .top++[ob v111,.top]) (fun v111=>[]) (fun y hm Kn5 hKn5=>?_) fun t h=>?_
         ·have h:=hm;clear hm;cbv;refine brkG h ?_ ?_<;>intro h
          ·cbv;obtain rfl:=oj h;exact hKn5 _ _ _ rfl (.nz (.mtE [] mx))
          ·cbv;refine brkG h ?_ ?_<;>intro h
           ·cbv;obtain rfl:=oj h;exact hKn5 _ _ _ rfl (.nz (.mtE [] mx))
           ·cbv;refine .g h (fun v hv=>ref30_Same_R hP _ _ v hv) aw_ rfl (fun _=>rfl) fun v112 h=>?_;cbv;obtain rfl:=oj h;exact hKn5 _ _ _ rfl (.nz (.mtE [] mx))
         obtain⟨v111,rfl⟩:=ez t;cbv;refine brkG h ?_ ?_<;>intro h
         ·cbv;obtain rfl:=oj h;obtain rfl:=hr4 _ rfl;obtain rfl:=hr3 _ rfl;obtain rfl:=hr2 _ rfl;obtain rfl:=hr1 _ rfl;exact hK _ _ aw_
         ·cbv;obtain rfl:=oj h;exact hKn4 _ _ _ rfl (.nz (.mtE [] mx))
        ·cbv;obtain rfl:=oj h;obtain rfl:=hr4 _ rfl;exact hKn3 _ _ _ rfl (.nz (.mtE [] mx))
      cbv;obtain rfl:=oj h;exact hKn2 _ _ _ rfl (.nz (.mtE [] mx))
     ·cbv;obtain rfl:=oj h;obtain rfl:=hr2 _ rfl;exact hKn1 _ _ _ rfl (.nz (.mtE [] mx))
    cbv;obtain rfl:=oj h;exact hK _ _ aw_
end Go.SX.Rg
