/- Parts of the proof. -/
import Derived.Test.YtllbabjgpdmblaaDoorZTdT
import Derived.Test.YtllbabjgpdmblaaDoorZTd52d
import Derived.Test.YtllbabjgpdmblaaDoorZTd20d
import Derived.Test.YtllbabjgpdmblaaDoorZTdSwalkT
import Derived.Test.YtllbabjgpdmblaaDoorZTd25
set_option linter.unusedSimpArgs false
set_option linter.unusedVariables false
set_option linter.unusedSectionVars false
namespace Go.SX.Td
open Go Go.SX Go.Proofs
set_option maxRecDepth 100000
def c7r0 : List GOp:=[
 gv 4 (.box 24 (.tmp 0)),
 gv 8 (.mv (.const (.bool false)))]
def c7r1 : List GOp:=[
 gv 23 (.call 22 []),
 gv 9 (.mv (.tmp 23))]
def c7r2 : List GOp:=[
 gv 24 (.load 1 true (.tmp 4)),
 gv 25 (.call 23 [(.tmp 24)]),
 gv 26 (.un .not (.tmp 25)),
 gv 27 (.mv (.tmp 26)),
 gw 28 27 false (.fadd 0 (.tmp 4)),
 gw 29 27 false (.load 1 false (.tmp 28)),
 gw 30 27 false (.len false (.tmp 29)),
 gw 31 27 false (.bin .eql (.tmp 30) (.const (.int .i64 0))),
 gv 32 (.pick (.tmp 27) (.const (.bool true)) (.tmp 31))]
def c7r3 : List GOp:=[
 gv 33 (.mv (.tmp 9)),
 gv 8 (.mv (.tmp 33))]
def c7r4 : List GOp:=[
 gv 35 (.load 1 true (.tmp 4)),
 gv 36 (.call 24 [(.tmp 35)]),
 gv 34 (.mv (.tmp 36)),
 gv 37 (.ext (.tmp 34) 0),
 gv 38 (.ext (.tmp 34) 1),
 gv 10 (.alloc 28 (.agg #[(.slice none 0 0),(.slice none 0 0)])),
 ⟨none,.store 2 (.tmp 10) (.tmp 37),none⟩,
 gv 11 (.mv (.tmp 38))]
def c7r5 : List GOp:=[
 gv 39 (.mv (.tmp 11)),
 gv 40 (.bin .neq (.tmp 39) (.const (.int .i64 0)))]
def c7r6 : List GOp:=[
 gv 41 (.mv (.tmp 9)),
 gv 8 (.mv (.tmp 41))]
def c7r7 : List GOp:=[
 gv 42 (.mv (.tmp 1)),
 gv 43 (.cvi .i64 (.tmp 42)),
 gv 44 (.fadd 0 (.tmp 4)),
 gv 45 (.load 1 false (.tmp 44)),
 gv 46 (.len false (.tmp 45)),
 gv 47 (.div .rem (.tmp 43) (.tmp 46)),
 gv 12 (.mv (.tmp 47))]
def c7r8 : List GOp:=[
 gv 48 (.fadd 0 (.tmp 4)),
 gv 49 (.load 1 false (.tmp 48)),
 gv 50 (.mv (.tmp 12)),
 gv 51 (.idxA 8 (.tmp 49) (.tmp 50)),
 gv 52 (.load 8 true (.tmp 51)),
 gv 13 (.alloc 36 (.agg #[oz,(.string ⟨#[]⟩),(.slice none 0 0),oz,oz,oz,oz,oz])),
 ⟨none,.store 8 (.tmp 13) (.tmp 52),none⟩]
def c7r9 : List GOp:=[
 gv 14 (.mv (.const (.slice none 0 0)))]
def c7r10 : List GOp:=[
 gv 53 (.fadd 2 (.tmp 13)),
 gv 54 (.load 1 false (.tmp 53)),
 gv 55 (.len false (.tmp 54)),
 gv 56 (.bin .sub (.tmp 55) (.const (.int .i64 1))),
 gv 15 (.mv (.tmp 56))]
def c7r11 : List GOp:=[
 gv 57 (.mv (.tmp 15)),
 gv 58 (.bin .geq (.tmp 57) (.const (.int .i64 0)))]
def c7r12 : List GOp:=[
 gv 61 (.mv (.tmp 14)),
 gv 62 (.fadd 2 (.tmp 13)),
 gv 63 (.load 1 false (.tmp 62)),
 gv 64 (.mv (.tmp 15)),
 gv 65 (.idxA 20 (.tmp 63) (.tmp 64)),
 gv 66 (.load 20 true (.tmp 65)),
 gv 67 (.bslice 57 20 1 (.agg #[oz,oz,oz,oz,oz,oz,oz,oz,oz,oz,oz,oz,oz,oz,oz,oz,oz,oz,oz,oz]) [(0,(.tmp 66))]),
 gv 68 (.app 57 20 160 (.agg #[oz,oz,oz,oz,oz,oz,oz,oz,oz,oz,oz,oz,oz,oz,oz,oz,oz,oz,oz,oz]) (.tmp 61) (.tmp 67)),
 gv 14 (.mv (.tmp 68))]
def c7r13 : List GOp:=[
 gv 59 (.mv (.tmp 15)),
 gv 60 (.bin .sub (.tmp 59) (.const (.int .i64 1))),
 gv 15 (.mv (.tmp 60))]
def c7l14 : DE:=.seq (.seq (.reg c7r11) (.cond (.tmp 58) (.skip) (.exit 0))) (.seq (.block 1 (.reg c7r12)) (.reg c7r13))
def c7r15 : List GOp:=[
 gv 69 (.mv (.tmp 14)),
 gv 70 (.len false (.tmp 69)),
 gv 71 (.bin .gtr (.tmp 70) (.const (.int .i64 0)))]
def c7r16 : List GOp:=[
 gv 72 (.mv (.tmp 2)),
 gv 73 (.cvi .i64 (.tmp 72)),
 gv 74 (.div .rem (.tmp 73) (.const (.int .i64 10))),
 gv 16 (.mv (.tmp 74))]
def c7r17 : List GOp:=[
 gv 75 (.mv (.tmp 14)),
 gv 76 (.idxA 20 (.tmp 75) (.const (.int .i64 0))),
 gv 77 (.load 20 true (.tmp 76)),
 gv 17 (.alloc 57 (.agg #[oz,oz,oz,oz,oz,oz,oz,oz,oz,oz,oz,oz,oz,oz,oz,oz,oz,oz,oz,oz])),
 ⟨none,.store 20 (.tmp 17) (.tmp 77),none⟩]
def c7r18 : List GOp:=[
 gv 78 (.mv (.tmp 14)),
 gv 79 (.idxA 20 (.tmp 78) (.const (.int .i64 0))),
 gv 80 (.load 20 true (.tmp 79)),
 gv 18 (.alloc 57 (.agg #[oz,oz,oz,oz,oz,oz,oz,oz,oz,oz,oz,oz,oz,oz,oz,oz,oz,oz,oz,oz])),
 ⟨none,.store 20 (.tmp 18) (.tmp 80),none⟩]
def c7r19 : List GOp:=[
 gv 81 (.mv (.tmp 3)),
 gv 82 (.mv (.tmp 16)),
 gv 83 (.idxP 10 2 (.tmp 17) (.tmp 82)),
 gv 84 (.fadd 0 (.tmp 83)),
 gv 85 (.load 1 false (.tmp 84)),
 gv 86 (.bin .geq (.tmp 81) (.tmp 85)),
 gv 87 (.mv (.tmp 86)),
 gw 88 87 true (.mv (.tmp 3)),
 gw 89 87 true (.mv (.tmp 16)),
 gw 90 87 true (.idxP 10 2 (.tmp 17) (.tmp 89)),
 gw 91 87 true (.fadd 1 (.tmp 90)),
 gw 92 87 true (.load 1 false (.tmp 91)),
 gw 93 87 true (.bin .lss (.tmp 88) (.tmp 92)),
 gv 94 (.pick (.tmp 87) (.tmp 93) (.const (.bool false)))]
def c7r20 : List GOp:=[
 gv 95 (.mv (.tmp 16)),
 gv 96 (.mv (.tmp 3)),
 gv 97 (.idxP 10 2 (.tmp 17) (.tmp 95)),
 gv 98 (.fadd 1 (.tmp 97)),
 ⟨none,.store 1 (.tmp 98) (.tmp 96),none⟩]
def c7r21 : List GOp:=[
 gv 99 (.mv (.tmp 16)),
 gv 100 (.mv (.tmp 3)),
 gv 101 (.bin .add (.tmp 100) (.const (.int .i64 1))),
 gv 102 (.idxP 10 2 (.tmp 18) (.tmp 99)),
 gv 103 (.fadd 0 (.tmp 102)),
 ⟨none,.store 1 (.tmp 103) (.tmp 101),none⟩]
def c7r22 : List GOp:=[
 gv 104 (.mv (.tmp 14)),
 gv 105 (.load 20 true (.tmp 18)),
 gv 106 (.load 20 true (.tmp 17)),
 gv 107 (.bslice 57 20 2 (.agg #[oz,oz,oz,oz,oz,oz,oz,oz,oz,oz,oz,oz,oz,oz,oz,oz,oz,oz,oz,oz]) [(0,(.tmp 105)),(1,(.tmp 106))]),
 gv 108 (.app 57 20 160 (.agg #[oz,oz,oz,oz,oz,oz,oz,oz,oz,oz,oz,oz,oz,oz,oz,oz,oz,oz,oz,oz]) (.tmp 104) (.tmp 107)),
 gv 14 (.mv (.tmp 108))]
def c7r23 : List GOp:=[
 gv 109 (.mv (.tmp 14)),
 gv 110 (.slc 20 (.tmp 109) (some (.const (.int .i64 1))) none),
 gv 14 (.mv (.tmp 110))]
def c7r24 : List GOp:=[
 gv 111 (.mv (.tmp 14)),
 gv 112 (.fadd 2 (.tmp 13)),
 ⟨none,.store 1 (.tmp 112) (.tmp 111),none⟩]
def c7r25 : List GOp:=[
 gv 113 (.bslice 36 8 0 (.agg #[oz,(.string ⟨#[]⟩),(.slice none 0 0),oz,oz,oz,oz,oz]) []),
 gv 114 (.fadd 0 (.tmp 4)),
 gv 115 (.load 1 false (.tmp 114)),
 gv 116 (.app 36 8 88 (.agg #[oz,(.string ⟨#[]⟩),(.slice none 0 0),oz,oz,oz,oz,oz]) (.tmp 113) (.tmp 115)),
 gv 117 (.build (.agg #[(.slice none 0 0)]) [((0,1),(.tmp 116))]),
 gv 19 (.alloc 24 (.agg #[(.slice none 0 0)])),
 ⟨none,.store 1 (.tmp 19) (.tmp 117),none⟩]
def c7r26 : List GOp:=[
 gv 118 (.fadd 0 (.tmp 19)),
 gv 119 (.load 1 false (.tmp 118)),
 gv 120 (.mv (.tmp 12)),
 gv 121 (.load 8 true (.tmp 13)),
 gv 122 (.idxA 8 (.tmp 119) (.tmp 120)),
 ⟨none,.store 8 (.tmp 122) (.tmp 121),none⟩]
def c7r27 : List GOp:=[
 gv 123 (.fadd 0 (.tmp 19)),
 gv 124 (.load 1 false (.tmp 123)),
 gv 125 (.build (.agg #[oz,(.string ⟨#[]⟩),(.slice none 0 0),oz,oz,oz,oz,oz]) [((0,1),(.const (.int .i64 7))),((1,1),(.const (.string ⟨#[90,95,110,111,95,111,116,104,101,114,95,114,117,108,101,95,104,97,115,95,116,104,105,115]⟩)))]),
 gv 126 (.bslice 36 8 1 (.agg #[oz,(.string ⟨#[]⟩),(.slice none 0 0),oz,oz,oz,oz,oz]) [(0,(.tmp 125))]),
 gv 127 (.app 36 8 88 (.agg #[oz,(.string ⟨#[]⟩),(.slice none 0 0),oz,oz,oz,oz,oz]) (.tmp 124) (.tmp 126)),
 gv 128 (.fadd 0 (.tmp 19)),
 ⟨none,.store 1 (.tmp 128) (.tmp 127),none⟩]
def c7r28 : List GOp:=[
 gv 20 (.mv (.const (.int .i64 0)))]
def c7r29 : List GOp:=[
 gv 129 (.mv (.tmp 20)),
 gv 130 (.fadd 0 (.tmp 4)),
 gv 131 (.load 1 false (.tmp 130)),
 gv 132 (.len false (.tmp 131)),
 gv 133 (.bin .lss (.tmp 129) (.tmp 132))]
def c7r30 : List GOp:=[
 gv 136 (.fadd 0 (.tmp 4)),
 gv 137 (.load 1 false (.tmp 136)),
 gv 138 (.mv (.tmp 20)),
 gv 139 (.idxA 8 (.tmp 137) (.tmp 138)),
 gv 140 (.fadd 1 (.tmp 139)),
 gv 141 (.load 1 false (.tmp 140)),
 gv 142 (.bin .eql (.tmp 141) (.const (.string ⟨#[90,95,110,111,95,111,116,104,101,114,95,114,117,108,101,95,104,97,115,95,116,104,105,115]⟩)))]
def c7r31 : List GOp:=[
 gv 143 (.mv (.tmp 9)),
 gv 8 (.mv (.tmp 143))]
def c7r32 : List GOp:=[
 gv 134 (.mv (.tmp 20)),
 gv 135 (.bin .add (.tmp 134) (.const (.int .i64 1))),
 gv 20 (.mv (.tmp 135))]
def c7l33 : DE:=.seq (.seq (.reg c7r29) (.cond (.tmp 133) (.skip) (.exit 2))) (.seq (.block 3 (.seq (.reg c7r30) (.cond (.tmp 142) (.seq (.reg c7r31) (.ret)) (.skip)))) (.reg c7r32))
def c7r34 : List GOp:=[
 gv 145 (.load 1 true (.tmp 19)),
 gv 146 (.call 24 [(.tmp 145)]),
 gv 144 (.mv (.tmp 146)),
 gv 147 (.ext (.tmp 144) 0),
 gv 148 (.ext (.tmp 144) 1),
 gv 21 (.alloc 28 (.agg #[(.slice none 0 0),(.slice none 0 0)])),
 ⟨none,.store 2 (.tmp 21) (.tmp 147),none⟩,
 gv 22 (.mv (.tmp 148))]
def c7r35 : List GOp:=[
 gv 149 (.mv (.tmp 9)),
 gv 150 (.mv (.tmp 149)),
 gw 151 150 true (.mv (.tmp 22)),
 gw 152 150 true (.bin .eql (.tmp 151) (.const (.int .i64 0))),
 gv 153 (.pick (.tmp 150) (.tmp 152) (.const (.bool false))),
 gv 154 (.mv (.tmp 153)),
 gw 155 154 true (.load 2 true (.tmp 10)),
 gw 156 154 true (.load 2 true (.tmp 21)),
 gw 157 154 true (.call 25 [(.tmp 155),(.tmp 156)]),
 gv 158 (.pick (.tmp 154) (.tmp 157) (.const (.bool false))),
 gv 8 (.mv (.tmp 158))]
def c7 : EFn:=⟨159,.seq (.reg c7r0) (.seq (.reg c7r1) (.seq (.join (.reg c7r2) (.cond (.tmp 32) (.seq (.reg c7r3) (.ret)) (.skip))) (.seq (.reg c7r4) (.seq (.seq (.reg c7r5) (.cond (.tmp 40) (.seq (.reg c7r6) (.ret)) (.skip))) (.seq (.reg c7r7) (.seq (.reg c7r8) (.seq (.reg c7r9) (.join (.seq (.reg c7r10) (.block 0 (.loop c7l14))) (.join (.seq (.reg c7r15) (.cond (.tmp 71) (.seq (.reg c7r16) (.seq (.reg c7r17) (.seq (.reg c7r18) (.join (.join (.reg c7r19) (.cond (.tmp 94) (.join (.reg c7r20) (.reg c7r21)) (.skip))) (.seq (.reg c7r22) (.reg c7r23)))))) (.skip))) (.seq (.reg c7r24) (.seq (.reg c7r25) (.seq (.reg c7r26) (.seq (.reg c7r27) (.join (.seq (.reg c7r28) (.block 2 (.loop c7l33))) (.seq (.reg c7r34) (.seq (.reg c7r35) (.ret))))))))))))))))),[.tmp 8]⟩
theorem c7_ok : compF Tryd.prog 7=some c7.er:=by kernel_rfl
set_option maxHeartbeats 4000000 in
theorem da0 {P:Program}(hP:P=Tryd.prog)(p:Policy)(which:Int)(attr:Int)(at_:Int)(r:Bool)(h:law14_TableOne_g p which attr at_=some r):Fn1 P 7 [vPolicy p,vIu8 which,vIu8 attr,vIi64 at_] (vB r):=by
 refine .walkE (hP▸c7_ok) fun K hK=>?_;unfold law14_TableOne_g at h;cbv;refine .g h (fun v hv=>law14_head_R hP v hv) aw_ rfl (fun _=>rfl) fun up1 h=>?_;cbv;refine .g h (fun (v2:Bool)=>[.top,.d (.val (.int .u8 which)),.d (.val (.int .u8 attr)),oi at_,.ptr 0 0]++rp 4 .top++[ob up1]++rp 22 .top++[ob v2]++rp 126 .top) (fun v2=>[.cells [.d (.sl (W eRule p.Rules))] 24]) (fun y hm Kn1 hKn1=>?_) fun t h=>?_
 ·have h:=hm;clear hm;cbv;refine .g h (fun v hv=>ref14_Few_R hP _ v hv) aw_ rfl (fun _=>rfl) fun v3 h=>?_;cbv;refine brkG h ?_ ?_<;>intro h
  ·cbv;obtain rfl:=oj h;refine hKn1 _ _ _ rfl (.nz (.mtE [0] ?_));(cbv;repeat (refine⟨an_,?_⟩;cbv))
  ·cbv;obtain rfl:=oj h;refine hKn1 _ _ _ rfl (.nz (.mtE [0] ?_));(cbv;repeat (refine⟨an_,?_⟩;cbv))
 obtain⟨v2,rfl⟩:=ez t;cbv;refine brkG h ?_ ?_<;>intro h
 ·cbv;obtain rfl:=oj h;exact hK _ _ aw_
 ·cbv;refine .g h (fun v hv=>table_Build_R hP _ v hv) aw_ rfl (fun _=>rfl) fun v4 h=>?_;cbv;refine brkG h ?_ ?_<;>intro h
  ·cbv;obtain rfl:=oj h;exact hK _ _ aw_
  ·cbv;refine .g h fun h=>?_;cbv;refine .g h (fun _=>rfl) fun x5 h=>?_;cbv;refine .g h (fun (zones6:(List (A10 Range)))=>[.top,.top,.d (.val (.int .u8 attr)),oi at_,.ptr 0 0]++rp 4 .top++[ob up1,.ptr 1 0,.top,oi (io.rem (io.wrap .i64 which) (io.len (W eRule p.Rules))),.ptr 2 0,.hd 3]++rp 144 .top) (fun zones6=>[.cells [.d (.sl (W eRule p.Rules))] 24,.cells [.d (.sl (W eNode v4.1.Nodes)),.d (.sl (W eDecision v4.1.Leaves))] 28,.cells [oi x5.Kind,.d (.val (.string x5.Name)),.d (.sl (W eA10Range x5.Zones)),oi x5.N,oi x5.R.Num,oi x5.R.Den,oi x5.S.Num,oi x5.S.Den] 36,.row 57 20 (W eA10Range zones6)]) (fun y hm Kn1 hKn1=>?_) fun t h=>?_
   ·have h:=hm;clear hm;cbv;refine .g h (fun ((zones7,k8):(List (A10 Range))×Int)=>[.top,.top,.d (.val (.int .u8 attr)),oi at_,.ptr 0 0]++rp 4 .top++[ob up1,.ptr 1 0,.top,oi (io.rem (io.wrap .i64 which) (io.len (W eRule p.Rules))),.ptr 2 0,.hd 3,oi k8]++rp 143 .top) (fun (zones7,k8)=>[.cells [.d (.sl (W eRule p.Rules))] 24,.cells [.d (.sl (W eNode v4.1.Nodes)),.d (.sl (W eDecision v4.1.Leaves))] 28,.cells [oi x5.Kind,.d (.val (.string x5.Name)),.d (.sl (W eA10Range x5.Zones)),oi x5.N,oi x5.R.Num,oi x5.R.Den,oi x5.S.Num,oi x5.S.Den] 36,.row 57 20 (W eA10Range zones7)]) (.nilr 14 57 20 rfl (.nz (.mtE [0,1,2,3] ?_))) fun s x h hr2 Kn2 hKn2=>?_
    ·(cbv;repeat (refine⟨an_,?_⟩;cbv))
    unfold law14_TableOne_l2 at h;obtain⟨zones7,k8⟩:=s;cbv;refine brkG h ?_ ?_<;>intro h
    ·cbv;refine .g h (fun _=>rfl) fun x9 h=>?_;cbv;refine .g (e:=eA10Range) h (W_cons aw_ (W_nil' _)) fun l10 h=>?_;cbv;refine .g h rfl (fun _=>rfl) (by decide) fun zones11 h=>?_;cbv;obtain rfl:=oj h;refine hKn2 _ _ _ rfl (.nz (.mtE [0,1,2,5] ?_));(cbv;repeat (refine⟨an_,?_⟩;cbv))
    ·cbv;obtain rfl:=oj h;obtain rfl:=hr2 _ rfl;refine hKn1 _ _ _ rfl (.nz (.mtE [0,1,2,3] ?_));(cbv;repeat (refine⟨an_,?_⟩;cbv))
   obtain⟨zones6,rfl⟩:=ez t;cbv;refine .g h (fun (zones12:(List (A10 Range)))=>rp 4 .top++[.ptr 0 0]++rp 4 .top++[ob up1,.ptr 1 0,.top,oi (io.rem (io.wrap .i64 which) (io.len (W eRule p.Rules))),.ptr 2 0,.d (.sl (W eA10Range zones12))]++rp 144 .top) (fun zones12=>[.cells [.d (.sl (W eRule p.Rules))] 24,.cells [.d (.sl (W eNode v4.1.Nodes)),.d (.sl (W eDecision v4.1.Leaves))] 28,.cells [oi x5.Kind,.d (.val (.string x5.Name)),.d (.sl (W eA10Range x5.Zones)),oi x5.N,oi x5.R.Num,oi x5.R.Den,oi x5.S.Num,oi x5.S.Den] 36]) (fun y hm Kn1 hKn1=>?_) fun t h=>?_
   ·have h:=hm;clear hm;cbv;refine brkG h ?_ ?_<;>intro h
    ·cbv;refine .g h fun h=>?_;cbv;refine .g h fun i13 h=>?_;cbv;refine .g h fun v14 h=>?_;cbv;refine .g h fun i15 h=>?_;cbv;refine .g h fun v16 h=>?_;cbv;refine .g h (fun ((low17,high18):(A10 Range)×(A10 Range))=>rp 4 .top++[.ptr 0 0]++rp 4 .top++[ob up1,.ptr 1 0,.top,oi (io.rem (io.wrap .i64 which) (io.len (W eRule p.Rules))),.ptr 2 0,.hd 3,.top,.top,.ptr 4 0,.ptr 5 0]++rp 140 .top) (fun (low17,high18)=>[.cells [.d (.sl (W eRule p.Rules))] 24,.cells [.d (.sl (W eNode v4.1.Nodes)),.d (.sl (W eDecision v4.1.Leaves))] 28,.cells [oi x5.Kind,.d (.val (.string x5.Name)),.d (.sl (W eA10Range x5.Zones)),oi x5.N,oi x5.R.Num,oi x5.R.Den,oi x5.S.Num,oi x5.S.Den] 36,.row 57 20 (W eA10Range zones6),.cells (cR low17) 57,.cells (cR high18) 57]) (fun y hm Kn2 hKn2=>?_) fun t h=>?_
     ·have h:=hm;clear hm;cbv;refine .g h (fun (v19:Bool)=>rp 3 .top++[oi at_,.ptr 0 0]++rp 4 .top++[ob up1,.ptr 1 0,.top,oi (io.rem (io.wrap .i64 which) (io.len (W eRule p.Rules))),.ptr 2 0,.hd 3,.top,oi (io.rem (io.wrap .i64 attr) 10),.ptr 4 0,.ptr 5 0]++rp 75 .top++[ob v19]++rp 64 .top) (fun v19=>[.cells [.d (.sl (W eRule p.Rules))] 24,.cells [.d (.sl (W eNode v4.1.Nodes)),.d (.sl (W eDecision v4.1.Leaves))] 28,.cells [oi x5.Kind,.d (.val (.string x5.Name)),.d (.sl (W eA10Range x5.Zones)),oi x5.N,oi x5.R.Num,oi x5.R.Den,oi x5.S.Num,oi x5.S.Den] 36,.row 57 20 (W eA10Range zones6),.cells (cR v14) 57,.cells (cR v16) 57]) (fun y hm Kn3 hKn3=>?_) fun t h=>?_
      ·have h:=hm;clear hm;cbv
       refine .c10 h ?_ ?_ ?_ ?_ ?_ ?_ ?_ ?_ ?_ ?_<;>(
        intro hni20 h;cbv;refine brkG h ?_ ?_<;>intro h
        ·cbv;refine .at _ hni20 (by decide) ?_;cbv;obtain rfl:=oj h;refine hKn3 _ _ _ rfl (.nz (.mtE [0,1,2,3,4,5] ?_));(cbv;repeat (refine⟨an_,?_⟩;cbv))
        ·cbv;obtain rfl:=oj h;refine hKn3 _ _ _ rfl (.nz (.mtE [0,1,2,3,4,5] ?_));(cbv;repeat (refine⟨an_,?_⟩;cbv))
        )
      obtain⟨v19,rfl⟩:=ez t;cbv;refine brkG h ?_ ?_<;>intro h
      ·cbv;refine .g h (fun (low21:(A10 Range))=>rp 3 .top++[oi at_,.ptr 0 0]++rp 4 .top++[ob up1,.ptr 1 0,.top,oi (io.rem (io.wrap .i64 which) (io.len (W eRule p.Rules))),.ptr 2 0,.hd 3,.top,oi (io.rem (io.wrap .i64 attr) 10),.ptr 4 0,.ptr 5 0]++rp 140 .top) (fun low21=>[.cells [.d (.sl (W eRule p.Rules))] 24,.cells [.d (.sl (W eNode v4.1.Nodes)),.d (.sl (W eDecision v4.1.Leaves))] 28,.cells [oi x5.Kind,.d (.val (.string x5.Name)),.d (.sl (W eA10Range x5.Zones)),oi x5.N,oi x5.R.Num,oi x5.R.Den,oi x5.S.Num,oi x5.S.Den] 36,.row 57 20 (W eA10Range zones6),.cells (cR low21) 57,.cells (cR v16) 57]) (fun y hm Kn3 hKn3=>?_) fun t h=>?_
       ·have h:=hm;clear hm;cbv
        refine .c10 h ?_ ?_ ?_ ?_ ?_ ?_ ?_ ?_ ?_ ?_<;>(
         intro hni22 h;cbv;obtain rfl:=oj h;refine hKn3 _ _ _ rfl (.nz (.mtE [0,1,2,3,4,5] ?_));(cbv;repeat (refine⟨an_,?_⟩;cbv))
         )
       obtain⟨low21,rfl⟩:=ez t;cbv
       refine .c10 h ?_ ?_ ?_ ?_ ?_ ?_ ?_ ?_ ?_ ?_<;>(
        intro hni23 h;cbv;obtain rfl:=oj h;refine hKn2 _ _ _ rfl (.nz (.mtE [0,1,2,3,4,5] ?_));(cbv;repeat (refine⟨an_,?_⟩;cbv))
        )
      ·cbv;obtain rfl:=oj h;refine hKn2 _ _ _ rfl (.nz (.mtE [0,1,2,3,4,5] ?_));(cbv;repeat (refine⟨an_,?_⟩;cbv))
     obtain⟨low17,high18⟩:=t;cbv;refine .g (e:=eA10Range) h (W_cons aw_ (W_cons aw_ (W_nil' _))) fun l24 h=>?_;cbv;refine .g h rfl (fun _=>rfl) (by decide) fun zones25 h=>?_;cbv;refine .data ?_;cbv;refine .g h (fun _=>rfl) fun l26 h=>?_;cbv;obtain rfl:=oj h;refine hKn1 _ _ _ rfl (.nz (.mtE [0,1,2] ?_));(cbv;repeat (refine⟨an_,?_⟩;cbv))
    ·cbv;obtain rfl:=oj h;refine hKn1 _ _ _ rfl (.frz [.hd 3] (.nz (.mtE [0,1,2] ?_)));(cbv;repeat (refine⟨an_,?_⟩;cbv))
   obtain⟨zones12,rfl⟩:=ez t;cbv;refine .g (e:=eRule) h (W_nil' _) fun l27 h=>?_;cbv;refine .g h rfl (fun _=>rfl) (by decide) fun l28 h=>?_;cbv;refine .g h fun i29 h=>?_;cbv;refine .g h (fun _=>by first | rfl | exact W_nil _ | (cbv;simp only[W_nilx])) fun l31 h=>?_;cbv;refine .g (e:=eRule) h (W_cons aw_ (W_nil' _)) fun l32 h=>?_;cbv;refine .g h rfl (fun _=>rfl) (by decide) fun l33 h=>?_;cbv;refine .ga h (fun (_:Unit)=>rp 9 .top++[ob up1,.ptr 0 0]++rp 8 .top++[.ptr 1 0]++rp 139 .top) (fun _=>[.cells [.d (.sl (W eNode v4.1.Nodes)),.d (.sl (W eDecision v4.1.Leaves))] 28,.cells [.hd 2] 24,.row 36 8 (W eRule l33)]) (fun y hm hr1 Kn1 hKn1=>?_) fun t h=>?_
   ·have h:=hm;clear hm;cbv;refine .g h (fun (k34:Int)=>rp 4 .top++[.ptr 0 0]++rp 4 .top++[ob up1,.ptr 1 0]++rp 8 .top++[.ptr 2 0,oi k34]++rp 138 .top) (fun k34=>[.cells [.d (.sl (W eRule p.Rules))] 24,.cells [.d (.sl (W eNode v4.1.Nodes)),.d (.sl (W eDecision v4.1.Leaves))] 28,.cells [.hd 3] 24,.row 36 8 (W eRule l33)]) (.nz (.mtE [0,1,5,7] ?_)) fun s x h hr2 Kn2 hKn2=>?_
    ·(cbv;repeat (refine⟨an_,?_⟩;cbv))
    unfold law14_TableOne_l4 at h;obtain⟨k34,rfl⟩:=ez s;cbv;refine brkG h ?_ ?_<;>intro h
    ·cbv;refine .g h (fun _=>rfl) fun x35 h=>?_;cbv;refine brkG h ?_ ?_<;>intro h
     ·cbv;obtain rfl:=oj h;obtain rfl:=hr2 _ rfl;obtain rfl:=hr1 _ rfl;exact hK _ _ aw_
     ·cbv;obtain rfl:=oj h;refine hKn2 _ _ _ rfl (.nz (.mtE [0,1,2,3] ?_));(cbv;repeat (refine⟨an_,?_⟩;cbv))
    ·cbv;obtain rfl:=oj h;obtain rfl:=hr2 _ rfl;refine hKn1 _ _ _ rfl (.nz (.mtE [1,2,3] ?_));(cbv;repeat (refine⟨an_,?_⟩;cbv))
   cbv;refine .g h (fun v hv=>table_Build_R hP _ v hv) aw_ rfl (fun _=>rfl) fun v36 h=>?_;cbv;refine brkG h ?_ ?_<;>intro h
   ·cbv;refine brkG h ?_ ?_<;>intro h
    ·cbv;refine .g h (fun v hv=>ref14_Same_R hP _ _ v hv) aw_ rfl (fun _=>rfl) fun v37 h=>?_;cbv;obtain rfl:=oj h;exact hK _ _ aw_
    ·cbv;obtain rfl:=oj h;exact hK _ _ aw_
   ·cbv;obtain rfl:=oj h;exact hK _ _ aw_
end Go.SX.Td
