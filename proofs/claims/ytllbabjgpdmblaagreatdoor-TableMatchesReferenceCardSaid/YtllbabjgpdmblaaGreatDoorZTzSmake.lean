/- Parts of the proof. -/
import Derived.Test.YtllbabjgpdmblaaGreatDoorZTdT
import Derived.Test.YtllbabjgpdmblaaGreatDoorZTd28
import Derived.Test.YtllbabjgpdmblaaGreatDoorZTd49
import Derived.Test.YtllbabjgpdmblaaGreatDoorZTzwnode
set_option linter.unusedSimpArgs false
set_option linter.unusedVariables false
set_option linter.unusedSectionVars false
namespace Go.SX.Td
open Go Go.SX Go.Proofs
set_option maxRecDepth 100000
def ku3 : List GOp:=gS 7 [.box 32 3,.mv (ci 0)]
def ko3 : List GOp:=gS 18 [.mv 0,.nilck 18,.fadd 7 19,.load 1 false 20]
def ki3 : List GOp:=gS 8 [.mv (ci 0)]
def ke3 : List GOp:=gS 22 [.mv 1,.bin .eql 22 (ci 10)]
def ka3 : List GOp:=gS 24 [.mv 0,.mv 0,.nilck 25,.fadd 0 26,.load 1 true 27,.load 10 true 7,.call 77 [28,29]]
def xq2 : List GOp:=gS 31 [.call 76 [24,30]]++gS 8 [.mv 31]
def kr3 : List GOp:=gS 9 [.mv (ci 0)]
def kn3 : List GOp:=gS 32 [.mv 9,.mv 0,.nilck 33,.fadd 5 34,.load 1 false 35,.len false 36,.bin .lss 32 37]
def kt3 : List GOp:=gS 41 [.mv 0,.nilck 41,.fadd 4 42,.load 1 false 43,.mv 9,.idxA 1 44 45,.load 1 false 46,.mv 1,.bin .eql 47 48,.mv 49]++gQ 50 true 51 [.mv 0,.nilck 51,.fadd 5 52,.load 1 false 53,.mv 9,.idxA 1 54 55,.load 1 false 56,.mv 2,.call 60 [57,58]]++gS 60 [.pick 50 59 (cB false)]
def kl3 : List GOp:=gS 61 [.mv 0,.nilck 61,.fadd 6 62,.load 1 false 63,.mv 9,.idxA 1 64 65,.load 1 false 66]++gS 8 [.mv 67]
def kd3 : List GOp:=gS 39 [.mv 9,.bin .add 39 (ci 1)]++gS 9 [.mv 40]
def uy2 : DE:=.seq (.seq (.reg kn3) (.cond 38 (.skip) (.exit 0))) (.seq (.block 1 (.join (.reg kt3) (.cond 60 (.seq (.reg kl3) (.ret)) (.skip)))) (.reg kd3))
def uk2 : List GOp:=gS 68 [.mv 0,.mv 1,.mv 2,.call 78 [68,69,70]]++gS 10 [.mv 71]
def ux2 : List GOp:=gS 72 [.mv 1,.build (.agg #[oz,(.slice none 0 0),(.slice none 0 0),oz]) [((0,1),72)]]++gS 11 [.alloc 50 (.agg #[oz,(.slice none 0 0),(.slice none 0 0),oz])]++[⟨none,.store 4 11 73,none⟩]
def uj2 : List GOp:=gS 12 [.mv (ci 0)]
def uq2 : List GOp:=gS 74 [.mv 12,.mv 10,.len false 75,.bin .leq 74 76]
def xu2 : List GOp:=gS 80 [.mv 1,.call 20 [],.mv 1,.idxV 10 2 true 81 82,.fld 0 1 false 83,.idxP 10 1 7 80]++[⟨none,.store 1 85 84,none⟩]
def xo2 : List GOp:=gS 86 [.mv 12,.bin .gtr 86 (ci 0)]
def xi2 : List GOp:=gS 88 [.mv 1,.mv 10,.mv 12,.bin .sub 90 (ci 1),.idxA 1 89 91,.load 1 false 92,.idxP 10 1 7 88]++[⟨none,.store 1 94 93,none⟩]
def xe2 : List GOp:=gS 13 [.mv cn]
def xa2 : List GOp:=gS 14 [.mv (ci 0)]
def xr2 : List GOp:=gS 95 [.mv 14,.mv 2,.len false 96,.bin .lss 95 97]
def xn2 : List GOp:=gS 101 [.mv 0,.nilck 101,.fadd 1 102,.load 1 false 103,.mv 2,.mv 14,.idxA 1 105 106,.load 1 false 107,.mv 1,.idxA 20 104 108,.idxP 10 2 110 109,.load 2 true 111]++gS 15 [.alloc 52 (.agg #[oz,oz])]++[⟨none,.store 2 15 112,none⟩]
def xt2 : List GOp:=gS 113 [.mv 1,.idxP 10 1 7 113,.load 1 false 114,.fadd 0 15,.load 1 false 116,.bin .geq 115 117,.mv 118]++gQ 119 true 120 [.mv 1,.idxP 10 1 7 120,.load 1 false 121,.fadd 1 15,.load 1 false 123,.bin .leq 122 124]++gS 126 [.pick 119 125 (cB false)]
def xl2 : List GOp:=gS 127 [.mv 13,.mv 2,.mv 14,.idxA 1 128 129,.load 1 false 130,.bslice 3 1 1 oz [(0,131)],.app 3 1 8 oz 127 132]++gS 13 [.mv 133]
def xd2 : List GOp:=gS 99 [.mv 14,.bin .add 99 (ci 1)]++gS 14 [.mv 100]
def uw2 : DE:=.seq (.seq (.reg xr2) (.cond 98 (.skip) (.exit 4))) (.join (.block 5 (.join (.par true true true 13 xn2) (.join (.par true true true 12 xt2) (.cond 126 (.reg xl2) (.skip))))) (.reg xd2))
def xc2 : List GOp:=gS 134 [.mv 0,.mv 1,.bin .add 135 (ci 1),.mv 13,.load 10 true 7,.call 37 [134,136,137,138]]++gS 16 [.mv 139]
def xm2 : List GOp:=gS 140 [.fadd 2 11,.load 1 false 140,.len false 141,.bin .gtr 142 (ci 0),.mv 143]++gQ 144 true 145 [.fadd 2 11,.load 1 false 145,.fadd 2 11,.load 1 false 147,.len false 148,.bin .sub 149 (ci 1),.idxA 1 146 150,.load 1 false 151,.mv 16,.bin .eql 152 153]++gS 155 [.pick 144 154 (cB false)]
def xf2 : List GOp:=gS 156 [.mv 12,.bin .gtr 156 (ci 0)]
def xh2 : List GOp:=gS 158 [.fadd 1 11,.load 1 false 158,.mv 1,.idxP 10 1 7 160,.load 1 false 161,.bslice 3 1 1 oz [(0,162)],.app 3 1 8 oz 159 163,.fadd 1 11]
def oi1 : GOp:=⟨none,.store 1 165 164,none⟩
def xp2 : List GOp:=gS 166 [.fadd 2 11,.load 1 false 166,.mv 16,.bslice 3 1 1 oz [(0,168)],.app 3 1 8 oz 167 169,.fadd 2 11]++[⟨none,.store 1 171 170,none⟩]
def xg2 : List GOp:=gS 78 [.mv 12,.bin .add 78 (ci 1)]++gS 12 [.mv 79]
def uv2 : DE:=.seq (.seq (.reg uq2) (.cond 77 (.skip) (.exit 2))) (.join (.block 3 (.join (.reg xu2) (.join (.seq (.reg xo2) (.cond 87 (.reg xi2) (.skip))) (.seq (.reg xe2) (.join (.seq (.reg xa2) (.block 4 (.loop uw2))) (.join (.reg xc2) (.seq (.join (.reg xm2) (.cond 155 (.exit 3) (.skip))) (.join (.seq (.reg xf2) (.cond 157 (.hyl true true 6 xh2 oi1) (.skip))) (.reg xp2))))))))) (.reg xg2))
def xy2 : List GOp:=gS 172 [.fadd 2 11,.load 1 false 172,.idxA 1 173 (ci 0),.load 1 false 174]++gS 17 [.mv 175]
def xw2 : List GOp:=gS 176 [.fadd 2 11,.load 1 false 176,.len false 177,.bin .gtr 178 (ci 1)]
def xv2 : List GOp:=gS 180 [.mv 0,.load 4 true 11,.call 79 [180,181]]++gS 17 [.mv 182]
def xk2 : List GOp:=gS 183 [.mv 0,.mv 0,.nilck 184,.fadd 4 185,.load 1 false 186,.mv 1,.bslice 3 1 1 oz [(0,188)],.app 3 1 8 oz 187 189,.nilck 183,.fadd 4 191]++[⟨none,.store 1 192 190,none⟩]
def xx2 : List GOp:=gS 193 [.mv 0,.mv 0,.nilck 194,.fadd 5 195,.load 1 false 196,.mv 2,.bslice 48 1 1 (.slice none 0 0) [(0,198)],.app 48 1 24 (.slice none 0 0) 197 199,.nilck 193,.fadd 5 201]++[⟨none,.store 1 202 200,none⟩]
def xj2 : List GOp:=gS 203 [.mv 0,.mv 0,.nilck 204,.fadd 6 205,.load 1 false 206,.mv 17,.bslice 3 1 1 oz [(0,208)],.app 3 1 8 oz 207 209,.nilck 203,.fadd 6 211]++[⟨none,.store 1 212 210,none⟩]
def xz2 : List GOp:=gS 213 [.mv 17]++gS 8 [.mv 213]
def c37 : EFn:=⟨214,.seq (.reg ku3) (.seq (.seq (.reg ko3) (.cond 21 (.seq (.reg ki3) (.ret)) (.skip))) (.seq (.seq (.reg ke3) (.cond 23 (.seq (.sfx false false false ka3 xq2) (.ret)) (.skip))) (.join (.seq (.reg kr3) (.block 0 (.loop uy2))) (.seq (.reg uk2) (.seq (.reg ux2) (.join (.seq (.reg uj2) (.block 2 (.loop uv2))) (.seq (.reg xy2) (.join (.seq (.reg xw2) (.cond 179 (.reg xv2) (.skip))) (.seq (.reg xk2) (.seq (.reg xx2) (.seq (.reg xj2) (.seq (.reg xz2) (.ret))))))))))))),[.tmp 8]⟩
theorem ub2 : zv0 Tryz.prog 37=some c37.er:=by kernel_rfl
set_option maxHeartbeats 8000000 in
theorem ir1 {P:Program}(hP:P=Tryz.prog)(rules:(List Rule))(zones:(List (A10 Range)))(rec:(Int→(List Int)→(A10 Int)→(List Node)→(List Decision)→(List Int)→(List (List Int))→(List Int)→Bool→Option (Int×(List Node)×(List Decision)×(List Int)×(List (List Int))×(List Int)×Bool)))(at0:Int)(lv:(List Int))(f:(A10 Int))(nodes:(List Node))(leaves:(List Decision))(attr:(List Int))(live:(List (List Int)))(made:(List Int))(full:Bool)(hrec:∀ at0 lv f nodes leaves attr live made full r,rec at0 lv f nodes leaves attr live made full=some r→qe0 P 37 [.cells [dq qp0 rules,dq qj0 zones,.hd 1,.hd 2,.hd 3,.hd 4,.hd 5,ob full] 90,rB nodes,rC leaves,rA attr,rD live,rA made] [.ptr 0 0,oi at0,dq qq0 lv,.agg (ca f)] (fun sv own'=>sv=oi r.1∧own'=[.cells [dq qp0 rules,dq qj0 zones,.hd 6,.hd 7,.hd 8,.hd 9,.hd 10,ob r.2.2.2.2.2.2] 90,.gone,.gone,.gone,.gone,.gone,rB r.2.1,rC r.2.2.1,rA r.2.2.2.1,rD r.2.2.2.2.1,rA r.2.2.2.2.2.1]))(r:Int×(List Node)×(List Decision)×(List Int)×(List (List Int))×(List Int)×Bool)(h:af0 rules zones rec at0 lv f nodes leaves attr live made full=some r):qe0 P 37 [.cells [dq qp0 rules,dq qj0 zones,.hd 1,.hd 2,.hd 3,.hd 4,.hd 5,ob full] 90,rB nodes,rC leaves,rA attr,rD live,rA made] [.ptr 0 0,oi at0,dq qq0 lv,.agg (ca f)] (fun sv own'=>sv=oi r.1∧own'=[.cells [dq qp0 rules,dq qj0 zones,.hd 6,.hd 7,.hd 8,.hd 9,.hd 10,ob r.2.2.2.2.2.2] 90,.gone,.gone,.gone,.gone,.gone,rB r.2.1,rC r.2.2.1,rA r.2.2.2.1,rD r.2.2.2.2.1,rA r.2.2.2.2.2.1]):=by
 refine .yh1 6 rfl (Nat.le_of_ble_eq_true rfl) (hP▸ub2) fun K hK=>?_;unfold af0 at h;cbv;refine qf0 h ?_ ?_<;>intro h
 ·cbv;obtain rfl:=oj h;exact hK _ _ [0,1,2,3,4,5,1,2,3,4,5] mx
 ·cbv;refine qf0 h ?_ ?_<;>intro h
  ·cbv;refine .g h (fun v hv=>to0 hP _ _ v hv) aw_ rfl (fun _=>rfl) fun v1 h=>?_;cbv;obtain⟨r2,hm,h⟩:=Option.bind_eq_some_iff.1 h;refine .dr1 [0,1,2,3,4,5] (eo1 hP _ _ _ _ _ _ _ _ _ _ hm) mx fun sv0 own0 hq _=>?_;obtain⟨rfl,rfl⟩:=hq;clear hm;cbv;obtain rfl:=oj h;exact hK _ _ [0,1,2,3,4,5,7,8,9,10,11] mx
  ·cbv;refine .ga h (fun (_:Unit)=>[.ptr 0 0,oi at0,dq qq0 lv]++rp 4 .top++[.ptr 6 0]++rp 206 .top) (fun _=>[.cells [dq qp0 rules,dq qj0 zones,.hd 1,.hd 2,.hd 3,.hd 4,.hd 5,ob full] 90,rB nodes,rC leaves,rA attr,rD live,rA made,.cells (ca f) 32]) (fun y hm hr1 Kn1 hKn1=>?_) fun t h=>?_
   ·have h:=hm;clear hm;cbv;refine .g h (fun (i3:Int)=>[.ptr 0 0,oi at0,dq qq0 lv]++rp 4 .top++[.ptr 6 0,.top,oi i3]++rp 204 .top) (fun i3=>[.cells [dq qp0 rules,dq qj0 zones,.hd 1,.hd 2,.hd 3,.hd 4,.hd 5,ob full] 90,rB nodes,rC leaves,rA attr,rD live,rA made,.cells (ca f) 32]) (.nz (.mtE [0,1,2,3,4,5,6] ?_)) fun s x h hr2 Kn2 hKn2=>?_
    ·exact mx
    unfold gw0 at h;obtain⟨i3,rfl⟩:=ez s;cbv;refine qf0 h ?_ ?_<;>intro h
    ·cbv;refine .g h (fun (v4:Bool)=>[.ptr 0 0,oi at0,dq qq0 lv]++rp 4 .top++[.ptr 6 0,.top,oi i3]++rp 50 .top++[ob v4]++rp 153 .top) (fun v4=>[.cells [dq qp0 rules,dq qj0 zones,.hd 1,.hd 2,.hd 3,.hd 4,.hd 5,ob full] 90,rB nodes,rC leaves,rA attr,rD live,rA made,.cells (ca f) 32]) (fun y hm Kn3 hKn3=>?_) fun t h=>?_
     ·have h:=hm;clear hm;cbv;refine .g h fun i5 h=>?_;cbv;refine .g h fun v6 h=>?_;cbv;refine qf0 h ?_ ?_<;>intro h
      ·cbv;refine .g h fun i7 h=>?_;cbv;refine .g h fun v8 h=>?_;cbv;refine .g h (fun v hv=>dh0 hP _ _ v hv) aw_ rfl (fun _=>rfl) fun v9 h=>?_;cbv;obtain rfl:=oj h;exact hKn3 _ _ _ rfl (.nz (.mtE [0,1,2,3,4,5,6] mx))
      ·cbv;obtain rfl:=oj h;exact hKn3 _ _ _ rfl (.nz (.mtE [0,1,2,3,4,5,6] mx))
     obtain⟨v4,rfl⟩:=ez t;cbv;refine qf0 h ?_ ?_<;>intro h
     ·cbv;refine .g h fun i10 h=>?_;cbv;refine .g h fun v11 h=>?_;cbv;obtain rfl:=oj h;obtain rfl:=hr2 _ rfl;obtain rfl:=hr1 _ rfl;exact hK _ _ [0,1,2,3,4,5,1,2,3,4,5] mx
     ·cbv;obtain rfl:=oj h;exact hKn2 _ _ _ rfl (.nz (.mtE [0,1,2,3,4,5,6] mx))
    ·cbv;obtain rfl:=oj h;obtain rfl:=hr2 _ rfl;exact hKn1 _ _ _ rfl (.nz (.mtE [0,1,2,3,4,5,6] mx))
   cbv;obtain⟨r12,hm,h⟩:=Option.bind_eq_some_iff.1 h;refine .dr1 [0,1,2,3,4,5] (eu1 hP _ _ _ _ _ _ _ _ _ _ _ hm) mx fun sv0 own0 hq _=>?_;obtain⟨rfl,rfl⟩:=hq;clear hm;cbv;refine .g h (fun ((Nodes13,Leaves14,Attr15,Live16,Made17,Full18,Cuts19,Kids20):(List Node)×(List Decision)×(List Int)×(List (List Int))×(List Int)×Bool×(List Int)×(List Int))=>[.ptr 0 0,oi at0,dq qq0 lv]++rp 8 .top++[.ptr 11 0]++rp 202 .top) (fun (Nodes13,Leaves14,Attr15,Live16,Made17,Full18,Cuts19,Kids20)=>[.cells [dq qp0 rules,dq qj0 zones,.hd 6,.hd 7,.hd 8,.hd 9,.hd 10,ob Full18] 90,.gone,.gone,.gone,.gone,.gone,rB Nodes13,rC Leaves14,rA Attr15,rD Live16,rA Made17,.cells [oi at0,.hd 12,.hd 13,oi 0] 50,rA Cuts19,rA Kids20]) (fun y hm Kn1 hKn1=>?_) fun t h=>?_
   ·have h:=hm;clear hm;cbv;refine .g h (fun ((Nodes21,Leaves22,Attr23,Live24,Made25,Full26,f27,Cuts28,Kids29,i30):(List Node)×(List Decision)×(List Int)×(List (List Int))×(List Int)×Bool×(A10 Int)×(List Int)×(List Int)×Int)=>[.ptr 0 0,oi at0,dq qq0 lv]++rp 4 .top++[.ptr 11 0,.top,.top,dq qq0 r12,.ptr 12 0,oi i30]++rp 201 .top) (fun (Nodes21,Leaves22,Attr23,Live24,Made25,Full26,f27,Cuts28,Kids29,i30)=>[.cells [dq qp0 rules,dq qj0 zones,.hd 6,.hd 7,.hd 8,.hd 9,.hd 10,ob Full26] 90,.gone,.gone,.gone,.gone,.gone,rB Nodes21,rC Leaves22,rA Attr23,rD Live24,rA Made25,.cells (ca f27) 32,.cells [oi at0,.hd 13,.hd 14,oi 0] 50,rA Cuts28,rA Kids29]) (.yp0 7 1 3 1 _ 50 rfl rfl (.yp0 7 2 3 1 _ 50 rfl rfl (.nz (.mtE [0,1,2,3,4,5,1,2,3,4,5,6,7,8,9] ?_)))) fun s x h hr2 Kn2 hKn2=>?_
    ·exact mx
    unfold xu0 at h;obtain⟨Nodes21,Leaves22,Attr23,Live24,Made25,Full26,f27,Cuts28,Kids29,i30⟩:=s;cbv;refine qf0 h ?_ ?_<;>intro h
    ·cbv;refine .g h (fun ((Nodes31,Leaves32,Attr33,Live34,Made35,Full36,f37,Cuts38,Kids39,i40):(List Node)×(List Decision)×(List Int)×(List (List Int))×(List Int)×Bool×(A10 Int)×(List Int)×(List Int)×Int)=>[.ptr 0 0,oi at0,dq qq0 lv]++rp 4 .top++[.ptr 11 0,.top,.top,dq qq0 r12,.ptr 12 0,oi i40]++rp 201 .top) (fun (Nodes31,Leaves32,Attr33,Live34,Made35,Full36,f37,Cuts38,Kids39,i40)=>[.cells [dq qp0 rules,dq qj0 zones,.hd 6,.hd 7,.hd 8,.hd 9,.hd 10,ob Full36] 90,.gone,.gone,.gone,.gone,.gone,rB Nodes31,rC Leaves32,rA Attr33,rD Live34,rA Made35,.cells (ca f37) 32,.cells [oi at0,.hd 13,.hd 14,oi 0] 50,rA Cuts38,rA Kids39]) (fun y hm Kn3 hKn3=>?_) fun t h=>?_
     ·have h:=hm;clear hm;cbv;refine .g h (fun ((f41,i42):(A10 Int)×Int)=>[.ptr 0 0,oi at0,dq qq0 lv]++rp 4 .top++[.ptr 11 0,.top,.top,dq qq0 r12,.ptr 12 0,oi i42]++rp 201 .top) (fun (f41,i42)=>[.cells [dq qp0 rules,dq qj0 zones,.hd 6,.hd 7,.hd 8,.hd 9,.hd 10,ob Full26] 90,.gone,.gone,.gone,.gone,.gone,rB Nodes21,rC Leaves22,rA Attr23,rD Live24,rA Made25,.cells (ca f41) 32,.cells [oi at0,.hd 13,.hd 14,oi 0] 50,rA Cuts28,rA Kids29]) (fun y hm Kn4 hKn4=>?_) fun t h=>?_
      ·have h:=hm;clear hm;cbv;refine .g h (fun v hv=>xo0 hP v hv) aw_ rfl (fun _=>rfl) fun v43 h=>?_;cbv
       refine .c10 h ?_ ?_ ?_ ?_ ?_ ?_ ?_ ?_ ?_ ?_<;>(
        intro hni44 h;cbv;refine .at _ hni44 (by decide) ?_;cbv;obtain rfl:=oj h;exact hKn4 _ _ _ rfl (.nz (.mtE [0,1,2,3,4,5,6,7,8,9,10,11,12,13,14] mx))
        )
      obtain⟨f41,i42⟩:=t;cbv;refine .g h (fun ((f45,i46):(A10 Int)×Int)=>[.ptr 0 0,oi at0,dq qq0 lv]++rp 4 .top++[.ptr 11 0,.top,.top,dq qq0 r12,.ptr 12 0,oi i46]++rp 201 .top) (fun (f45,i46)=>[.cells [dq qp0 rules,dq qj0 zones,.hd 6,.hd 7,.hd 8,.hd 9,.hd 10,ob Full26] 90,.gone,.gone,.gone,.gone,.gone,rB Nodes21,rC Leaves22,rA Attr23,rD Live24,rA Made25,.cells (ca f45) 32,.cells [oi at0,.hd 13,.hd 14,oi 0] 50,rA Cuts28,rA Kids29]) (fun y hm Kn4 hKn4=>?_) fun t h=>?_
      ·have h:=hm;clear hm;cbv;refine qf0 h ?_ ?_<;>intro h
       ·cbv;refine .g h (fun _=>rfl) fun x47 h=>?_;cbv
        refine .c10 h ?_ ?_ ?_ ?_ ?_ ?_ ?_ ?_ ?_ ?_<;>(
         intro hni48 h;cbv;obtain rfl:=oj h;exact hKn4 _ _ _ rfl (.nz (.mtE [0,1,2,3,4,5,6,7,8,9,10,11,12,13,14] mx))
         )
       ·cbv;obtain rfl:=oj h;exact hKn4 _ _ _ rfl (.nz (.mtE [0,1,2,3,4,5,6,7,8,9,10,11,12,13,14] mx))
      obtain⟨f45,i46⟩:=t;cbv;refine .g h (fun ((i49,next50):Int×(List Int))=>[.ptr 0 0,oi at0,dq qq0 lv]++rp 4 .top++[.ptr 11 0,.top,.top,dq qq0 r12,.ptr 12 0,oi i49,.hd 15]++rp 200 .top) (fun (i49,next50)=>[.cells [dq qp0 rules,dq qj0 zones,.hd 6,.hd 7,.hd 8,.hd 9,.hd 10,ob Full26] 90,.gone,.gone,.gone,.gone,.gone,rB Nodes21,rC Leaves22,rA Attr23,rD Live24,rA Made25,.cells (ca f45) 32,.cells [oi at0,.hd 13,.hd 14,oi 0] 50,rA Cuts28,rA Kids29,rA next50]) (fun y hm Kn4 hKn4=>?_) fun t h=>?_
      ·have h:=hm;clear hm;cbv;refine .g h (fun ((i51,next52,k53):Int×(List Int)×Int)=>[.ptr 0 0,oi at0,dq qq0 lv]++rp 4 .top++[.ptr 11 0,.top,.top,dq qq0 r12,.ptr 12 0,oi i51,.hd 15,oi k53]++rp 199 .top) (fun (i51,next52,k53)=>[.cells [dq qp0 rules,dq qj0 zones,.hd 6,.hd 7,.hd 8,.hd 9,.hd 10,ob Full26] 90,.gone,.gone,.gone,.gone,.gone,rB Nodes21,rC Leaves22,rA Attr23,rD Live24,rA Made25,.cells (ca f45) 32,.cells [oi at0,.hd 13,.hd 14,oi 0] 50,rA Cuts28,rA Kids29,rA next52]) (.zb2 13 3 1 rfl (.nz (.mtE [0,1,2,3,4,5,6,7,8,9,10,11,12,13,14,15] ?_))) fun s x h hr5 Kn5 hKn5=>?_
       ·exact mx
       unfold fk0 at h;obtain⟨i51,next52,k53⟩:=s;cbv;refine qf0 h ?_ ?_<;>intro h
       ·cbv;refine .g h (fun ((i54,next55):Int×(List Int))=>[.ptr 0 0,oi at0,dq qq0 lv]++rp 4 .top++[.ptr 11 0,.top,.top,dq qq0 r12,.ptr 12 0,oi i54,.hd 15,oi k53]++rp 199 .top) (fun (i54,next55)=>[.cells [dq qp0 rules,dq qj0 zones,.hd 6,.hd 7,.hd 8,.hd 9,.hd 10,ob Full26] 90,.gone,.gone,.gone,.gone,.gone,rB Nodes21,rC Leaves22,rA Attr23,rD Live24,rA Made25,.cells (ca f45) 32,.cells [oi at0,.hd 13,.hd 14,oi 0] 50,rA Cuts28,rA Kids29,rA next55]) (fun y hm Kn6 hKn6=>?_) fun t h=>?_
        ·have h:=hm;clear hm;cbv;refine .g h (fun ((i56,Lo57,Hi58):Int×Int×Int)=>[.ptr 0 0,oi at0,dq qq0 lv]++rp 4 .top++[.ptr 11 0,.top,.top,dq qq0 r12,.ptr 12 0,oi i56,.hd 15,oi k53,.ptr 16 0]++rp 198 .top) (fun (i56,Lo57,Hi58)=>[.cells [dq qp0 rules,dq qj0 zones,.hd 6,.hd 7,.hd 8,.hd 9,.hd 10,ob Full26] 90,.gone,.gone,.gone,.gone,.gone,rB Nodes21,rC Leaves22,rA Attr23,rD Live24,rA Made25,.cells (ca f45) 32,.cells [oi at0,.hd 13,.hd 14,oi 0] 50,rA Cuts28,rA Kids29,rA next52,.cells [oi Lo57,oi Hi58] 52]) (fun y hm Kn7 hKn7=>?_) fun t h=>?_
         ·have h:=hm;clear hm;cbv;refine .g h (fun _=>rfl) fun x59 h=>?_;cbv;refine .g h (fun _=>rfl) fun x60 h=>?_;cbv
          refine .c10 h ?_ ?_ ?_ ?_ ?_ ?_ ?_ ?_ ?_ ?_<;>(
           intro hni61 h;cbv;obtain rfl:=oj h;exact hKn7 _ _ _ rfl (.nz (.mtE [0,1,2,3,4,5,6,7,8,9,10,11,12,13,14,15,16] mx))
           )
         obtain⟨i56,Lo57,Hi58⟩:=t;cbv;refine .g h (fun ((i62,v63):Int×Bool)=>[.ptr 0 0,oi at0,dq qq0 lv]++rp 4 .top++[.ptr 11 0,.top,.top,dq qq0 r12,.ptr 12 0,oi i62,.hd 15,oi k53]++rp 111 .top++[ob v63]++rp 87 .top) (fun (i62,v63)=>[.cells [dq qp0 rules,dq qj0 zones,.hd 6,.hd 7,.hd 8,.hd 9,.hd 10,ob Full26] 90,.gone,.gone,.gone,.gone,.gone,rB Nodes21,rC Leaves22,rA Attr23,rD Live24,rA Made25,.cells (ca f45) 32,.cells [oi at0,.hd 13,.hd 14,oi 0] 50,rA Cuts28,rA Kids29,rA next52]) (fun y hm Kn7 hKn7=>?_) fun t h=>?_
         ·have h:=hm;clear hm;cbv
          refine .c10 h ?_ ?_ ?_ ?_ ?_ ?_ ?_ ?_ ?_ ?_<;>(
           intro hnix64 h;cbv;refine qf0 h ?_ ?_<;>intro h
           ·cbv;refine .at _ hnix64 (by decide) ?_;cbv;obtain rfl:=oj h;exact hKn7 _ _ _ rfl (.nz (.mtE [0,1,2,3,4,5,6,7,8,9,10,11,12,13,14,15] mx))
           ·cbv;obtain rfl:=oj h;exact hKn7 _ _ _ rfl (.nz (.mtE [0,1,2,3,4,5,6,7,8,9,10,11,12,13,14,15] mx))
           )
         obtain⟨i62,v63⟩:=t;cbv;refine qf0 h ?_ ?_<;>intro h
         ·cbv;refine .g h (fun _=>rfl) fun x65 h=>?_;cbv;refine .g (e:=qq0) h (qd0 aw_ (zw0 _)) fun l66 h=>?_;cbv;refine .g h rfl (fun _=>rfl) (by decide) fun next67 h=>?_;cbv;obtain rfl:=oj h;exact hKn6 _ _ _ rfl (.nz (.mtE [0,1,2,3,4,5,6,7,8,9,10,11,12,13,14,17] mx))
         ·cbv;obtain rfl:=oj h;exact hKn6 _ _ _ rfl (.nz (.mtE [0,1,2,3,4,5,6,7,8,9,10,11,12,13,14,15] mx))
        obtain⟨i54,next55⟩:=t;cbv;obtain rfl:=oj h;exact hKn5 _ _ _ rfl (.nz (.mtE [0,1,2,3,4,5,6,7,8,9,10,11,12,13,14,15] mx))
       ·cbv;obtain rfl:=oj h;obtain rfl:=hr5 _ rfl;exact hKn4 _ _ _ rfl (.nz (.mtE [0,1,2,3,4,5,6,7,8,9,10,11,12,13,14,15] mx))
      obtain⟨i49,next50⟩:=t;cbv;refine .g h (fun ((Nodes68,Leaves69,Attr70,Live71,Made72,Full73,i74,kid75):(List Node)×(List Decision)×(List Int)×(List (List Int))×(List Int)×Bool×Int×Int)=>[.ptr 0 0,oi at0,dq qq0 lv]++rp 4 .top++[.ptr 11 0,.top,.top,dq qq0 r12,.ptr 12 0,oi i74]++rp 3 .top++[oi kid75]++rp 197 .top) (fun (Nodes68,Leaves69,Attr70,Live71,Made72,Full73,i74,kid75)=>[.cells [dq qp0 rules,dq qj0 zones,.hd 6,.hd 7,.hd 8,.hd 9,.hd 10,ob Full73] 90,.gone,.gone,.gone,.gone,.gone,rB Nodes68,rC Leaves69,rA Attr70,rD Live71,rA Made72,.cells (ca f45) 32,.cells [oi at0,.hd 13,.hd 14,oi 0] 50,rA Cuts28,rA Kids29]) (fun y hm Kn4 hKn4=>?_) fun t h=>?_
      ·have h:=hm;clear hm;cbv;obtain⟨r76,hm,h⟩:=Option.bind_eq_some_iff.1 h;refine .dr1 [0,6,7,8,9,10] (hrec _ _ _ _ _ _ _ _ _ _ hm) mx fun sv0 own0 hq _=>?_;obtain⟨rfl,rfl⟩:=hq;clear hm;cbv;obtain rfl:=oj h;exact hKn4 _ _ _ rfl (.nz (.mtE [0,1,2,3,4,5,16,17,18,19,20,11,12,13,14] mx))
      obtain⟨Nodes68,Leaves69,Attr70,Live71,Made72,Full73,i74,kid75⟩:=t;cbv;refine .g h (fun ((i77,v78):Int×Bool)=>[.ptr 0 0,oi at0,dq qq0 lv]++rp 4 .top++[.ptr 11 0,.top,.top,dq qq0 r12,.ptr 12 0,oi i77]++rp 3 .top++[oi kid75]++rp 138 .top++[ob v78]++rp 58 .top) (fun (i77,v78)=>[.cells [dq qp0 rules,dq qj0 zones,.hd 6,.hd 7,.hd 8,.hd 9,.hd 10,ob Full73] 90,.gone,.gone,.gone,.gone,.gone,rB Nodes68,rC Leaves69,rA Attr70,rD Live71,rA Made72,.cells (ca f45) 32,.cells [oi at0,.hd 13,.hd 14,oi 0] 50,rA Cuts28,rA Kids29]) (fun y hm Kn4 hKn4=>?_) fun t h=>?_
      ·have h:=hm;clear hm;cbv;refine qf0 h ?_ ?_<;>intro h
       ·cbv;refine .g h fun i79 h=>?_;cbv;refine .g h fun v80 h=>?_;cbv;obtain rfl:=oj h;exact hKn4 _ _ _ rfl (.nz (.mtE [0,1,2,3,4,5,6,7,8,9,10,11,12,13,14] mx))
       ·cbv;obtain rfl:=oj h;exact hKn4 _ _ _ rfl (.nz (.mtE [0,1,2,3,4,5,6,7,8,9,10,11,12,13,14] mx))
      obtain⟨i77,v78⟩:=t;cbv;refine qf0 h ?_ ?_<;>intro h
      ·cbv;obtain rfl:=oj h;exact hKn3 _ _ _ rfl (.nz (.mtE [0,1,2,3,4,5,6,7,8,9,10,11,12,13,14] mx))
      ·cbv;refine .g h (fun ((Cuts81,i82):(List Int)×Int)=>[.ptr 0 0,oi at0,dq qq0 lv]++rp 4 .top++[.ptr 11 0,.top,.top,dq qq0 r12,.ptr 12 0,oi i82]++rp 3 .top++[oi kid75]++rp 197 .top) (fun (Cuts81,i82)=>[.cells [dq qp0 rules,dq qj0 zones,.hd 6,.hd 7,.hd 8,.hd 9,.hd 10,ob Full73] 90,.gone,.gone,.gone,.gone,.gone,rB Nodes68,rC Leaves69,rA Attr70,rD Live71,rA Made72,.cells (ca f45) 32,.cells [oi at0,.hd 13,.hd 14,oi 0] 50,rA Cuts81,rA Kids29]) (fun y hm Kn4 hKn4=>?_) fun t h=>?_
       ·have h:=hm;clear hm;cbv;refine qf0 h ?_ ?_<;>intro h
        ·cbv
         refine .c10 h ?_ ?_ ?_ ?_ ?_ ?_ ?_ ?_ ?_ ?_<;>(
          intro hni83 h;cbv;refine .g (e:=qq0) h (qd0 aw_ (zw0 _)) fun l84 h=>?_;cbv;refine .g h rfl (fun _=>rfl) (by decide) fun l85 h=>?_;cbv;obtain rfl:=oj h;exact hKn4 _ _ _ rfl (.nz (.mtE [0,1,2,3,4,5,6,7,8,9,10,11,12,16,14] mx))
          )
        ·cbv;obtain rfl:=oj h;exact hKn4 _ _ _ rfl (.nz (.mtE [0,1,2,3,4,5,6,7,8,9,10,11,12,13,14] mx))
       obtain⟨Cuts81,i82⟩:=t;cbv;refine .g (e:=qq0) h (qd0 aw_ (zw0 _)) fun l86 h=>?_;cbv;refine .g h rfl (fun _=>rfl) (by decide) fun l87 h=>?_;cbv;obtain rfl:=oj h;exact hKn3 _ _ _ rfl (.nz (.mtE [0,1,2,3,4,5,6,7,8,9,10,11,12,13,16] mx))
     obtain⟨Nodes31,Leaves32,Attr33,Live34,Made35,Full36,f37,Cuts38,Kids39,i40⟩:=t;cbv;obtain rfl:=oj h;exact hKn2 _ _ _ rfl (.nz (.mtE [0,1,2,3,4,5,6,7,8,9,10,11,12,13,14] mx))
    ·cbv;obtain rfl:=oj h;obtain rfl:=hr2 _ rfl;exact hKn1 _ _ _ rfl (.nz (.mtE [0,1,2,3,4,5,6,7,8,9,10,12,13,14] mx))
   obtain⟨Nodes13,Leaves14,Attr15,Live16,Made17,Full18,Cuts19,Kids20⟩:=t;cbv;refine .g h fun i88 h=>?_;cbv;refine .g h fun v89 h=>?_;cbv;refine .g h (fun ((Nodes90,Leaves91,Attr92,Live93,Made94,Full95,made96):(List Node)×(List Decision)×(List Int)×(List (List Int))×(List Int)×Bool×Int)=>[.ptr 0 0,oi at0,dq qq0 lv]++rp 14 .top++[oi made96]++rp 196 .top) (fun (Nodes90,Leaves91,Attr92,Live93,Made94,Full95,made96)=>[.cells [dq qp0 rules,dq qj0 zones,.hd 6,.hd 7,.hd 8,.hd 9,.hd 10,ob Full95] 90,.gone,.gone,.gone,.gone,.gone,rB Nodes90,rC Leaves91,rA Attr92,rD Live93,rA Made94]) (fun y hm Kn1 hKn1=>?_) fun t h=>?_
   ·have h:=hm;clear hm;cbv;refine qf0 h ?_ ?_<;>intro h
    ·cbv;obtain⟨r97,hm,h⟩:=Option.bind_eq_some_iff.1 h;refine .dr1 [0,6,7,8,9,10] (do1 hP _ _ _ _ _ _ _ _ _ _ hm) mx fun sv0 own0 hq _=>?_;obtain⟨rfl,rfl⟩:=hq;clear hm;cbv;obtain rfl:=oj h;exact hKn1 _ _ _ rfl (.nz (.mtE [0,1,2,3,4,5,14,15,16,17,18] mx))
    ·cbv;obtain rfl:=oj h;exact hKn1 _ _ _ rfl (.nz (.mtE [0,1,2,3,4,5,6,7,8,9,10] mx))
   obtain⟨Nodes90,Leaves91,Attr92,Live93,Made94,Full95,made96⟩:=t;cbv;refine .g (e:=qq0) h (qd0 aw_ (zw0 _)) fun l98 h=>?_;cbv;refine .g h rfl (fun _=>rfl) (by decide) fun l99 h=>?_;cbv;refine .g (e:=qt0) h (qd0 aw_ (zw0 _)) fun l100 h=>?_;cbv;refine .g h rfl (fun _=>rfl) (by decide) fun l101 h=>?_;cbv;refine .g (e:=qq0) h (qd0 aw_ (zw0 _)) fun l102 h=>?_;cbv;refine .g h rfl (fun _=>rfl) (by decide) fun l103 h=>?_;cbv;obtain rfl:=oj h;exact hK _ _ [0,1,2,3,4,5,6,7,12,14,16] mx
theorem qu1 {P:Program}(hP:P=Tryz.prog)(rules:(List Rule))(zones:(List (A10 Range))):∀ (n:Nat)(at0:Int)(lv:(List Int))(f:(A10 Int))(nodes:(List Node))(leaves:(List Decision))(attr:(List Int))(live:(List (List Int)))(made:(List Int))(full:Bool)(r:Int×(List Node)×(List Decision)×(List Int)×(List (List Int))×(List Int)×Bool),iw0 rules zones n at0 lv f nodes leaves attr live made full=some r→qe0 P 37 [.cells [dq qp0 rules,dq qj0 zones,.hd 1,.hd 2,.hd 3,.hd 4,.hd 5,ob full] 90,rB nodes,rC leaves,rA attr,rD live,rA made] [.ptr 0 0,oi at0,dq qq0 lv,.agg (ca f)] (fun sv own'=>sv=oi r.1∧own'=[.cells [dq qp0 rules,dq qj0 zones,.hd 6,.hd 7,.hd 8,.hd 9,.hd 10,ob r.2.2.2.2.2.2] 90,.gone,.gone,.gone,.gone,.gone,rB r.2.1,rC r.2.2.1,rA r.2.2.2.1,rD r.2.2.2.2.1,rA r.2.2.2.2.2.1])
 | 0,_,_,_,_,_,_,_,_,_,_,h=>by cases h
 | n+1,at0,lv,f,nodes,leaves,attr,live,made,full,r,h=>ir1 hP rules zones _ at0 lv f nodes leaves attr live made full (qu1 hP rules zones n) r h
end Go.SX.Td
