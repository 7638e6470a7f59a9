/- Parts of the proof. -/
import Derived.Test.YtllbabjgpdmblaaGreatDoorZTdT
import Derived.Test.YtllbabjgpdmblaaGreatDoorZTd49
import Derived.Test.YtllbabjgpdmblaaGreatDoorZTz56
import Derived.Test.YtllbabjgpdmblaaGreatDoorZTzwnode
set_option linter.unusedSimpArgs false
set_option linter.unusedVariables false
set_option linter.unusedSectionVars false
namespace Go.SX.Td
open Go Go.SX Go.Proofs
set_option maxRecDepth 100000
def sp3 : List ah:=gS 7 [.box 32 3,.mv (ci 0)]
def sg3 : List ah:=gS 18 [.mv 0,.aO 18,.aj 7 19,.load 1 false 20]
def sb3 : List ah:=gS 8 [.mv (ci 0)]
def sy3 : List ah:=gS 22 [.mv 1,.bin .eql 22 (ci 10)]
def sw3 : List ah:=gS 24 [.mv 0,.mv 0,.aO 25,.aj 0 26,.load 1 true 27,.load 10 true 7,.call 77 [28,29]]
def pt2 : List ah:=gS 31 [.call 76 [24,30]]++gS 8 [.mv 31]
def sv3 : List ah:=gS 9 [.mv (ci 0)]
def sk3 : List ah:=gS 32 [.mv 9,.mv 0,.aO 33,.aj 5 34,.load 1 false 35,.len false 36,.bin .lss 32 37]
def sx3 : List ah:=gS 41 [.mv 0,.aO 41,.aj 4 42,.load 1 false 43,.mv 9,.aQ 1 44 45,.load 1 false 46,.mv 1,.bin .eql 47 48,.mv 49]++gQ 50 true 51 [.mv 0,.aO 51,.aj 5 52,.load 1 false 53,.mv 9,.aQ 1 54 55,.load 1 false 56,.mv 2,.call 60 [57,58]]++gS 60 [.pick 50 59 (cB false)]
def sj3 : List ah:=gS 61 [.mv 0,.aO 61,.aj 6 62,.load 1 false 63,.mv 9,.aQ 1 64 65,.load 1 false 66]++gS 8 [.mv 67]
def sz3 : List ah:=gS 39 [.mv 9,.bin .add 39 (ci 1)]++gS 9 [.mv 40]
def mx2 : DE:=.seq (.seq (.reg sk3) (.cond 38 (.skip) (.exit 0))) (.seq (.block 1 (.join (.reg sx3) (.cond 60 (.seq (.reg sj3) (.ret)) (.skip)))) (.reg sz3))
def mq2 : List ah:=gS 68 [.mv 0,.mv 1,.mv 2,.call 78 [68,69,70]]++gS 10 [.mv 71]
def lu2 : List ah:=gS 72 [.mv 1,.build (.agg #[oz,(.slice none 0 0),(.slice none 0 0),oz]) [((0,1),72)]]++gS 11 [.alloc 50 (.agg #[oz,(.slice none 0 0),(.slice none 0 0),oz])]++[⟨none,.store 4 11 73,none⟩]
def li2 : List ah:=gS 12 [.mv (ci 0)]
def le2 : List ah:=gS 74 [.mv 12,.mv 10,.len false 75,.bin .leq 74 76]
def la2 : List ah:=gS 80 [.mv 1,.call 20 [],.mv 1,.lD 10 2 true 81 82,.GN 0 1 false 83,.eH 10 1 7 80]++[⟨none,.store 1 85 84,none⟩]
def ln2 : List ah:=gS 86 [.mv 12,.bin .gtr 86 (ci 0)]
def ls2 : List ah:=gS 88 [.mv 1,.mv 10,.mv 12,.bin .sub 90 (ci 1),.aQ 1 89 91,.load 1 false 92,.eH 10 1 7 88]++[⟨none,.store 1 94 93,none⟩]
def lt2 : List ah:=gS 13 [.mv cn]
def ll2 : List ah:=gS 14 [.mv (ci 0)]
def ld2 : List ah:=gS 95 [.mv 14,.mv 2,.len false 96,.bin .lss 95 97]
def lc2 : List ah:=gS 101 [.mv 0,.aO 101,.aj 1 102,.load 1 false 103,.mv 2,.mv 14,.aQ 1 105 106,.load 1 false 107,.mv 1,.aQ 20 104 108,.eH 10 2 110 109,.load 2 true 111]++gS 15 [.alloc 52 (.agg #[oz,oz])]++[⟨none,.store 2 15 112,none⟩]
def lm2 : List ah:=gS 113 [.mv 1,.eH 10 1 7 113,.load 1 false 114,.aj 0 15,.load 1 false 116,.bin .geq 115 117,.mv 118]++gQ 119 true 120 [.mv 1,.eH 10 1 7 120,.load 1 false 121,.aj 1 15,.load 1 false 123,.bin .leq 122 124]++gS 126 [.pick 119 125 (cB false)]
def lh2 : List ah:=gS 127 [.mv 13,.mv 2,.mv 14,.aQ 1 128 129,.load 1 false 130,.aU 3 1 1 oz [(0,131)],.app 3 1 8 oz 127 132]++gS 13 [.mv 133]
def lg2 : List ah:=gS 99 [.mv 14,.bin .add 99 (ci 1)]++gS 14 [.mv 100]
def mj2 : DE:=.seq (.seq (.reg ld2) (.cond 98 (.skip) (.exit 4))) (.join (.block 5 (.join (.par true true true 13 lc2) (.join (.par true true true 12 lm2) (.cond 126 (.reg lh2) (.skip))))) (.reg lg2))
def lb2 : List ah:=gS 134 [.mv 0,.mv 1,.bin .add 135 (ci 1),.mv 13,.load 10 true 7,.call 37 [134,136,137,138]]++gS 16 [.mv 139]
def ly2 : List ah:=gS 140 [.aj 2 11,.load 1 false 140,.len false 141,.bin .gtr 142 (ci 0),.mv 143]++gQ 144 true 145 [.aj 2 11,.load 1 false 145,.aj 2 11,.load 1 false 147,.len false 148,.bin .sub 149 (ci 1),.aQ 1 146 150,.load 1 false 151,.mv 16,.bin .eql 152 153]++gS 155 [.pick 144 154 (cB false)]
def lw2 : List ah:=gS 156 [.mv 12,.bin .gtr 156 (ci 0)]
def lv2 : List ah:=gS 158 [.aj 1 11,.load 1 false 158,.mv 1,.eH 10 1 7 160,.load 1 false 161,.aU 3 1 1 oz [(0,162)],.app 3 1 8 oz 159 163,.aj 1 11]
def vz2 : ah:=⟨none,.store 1 165 164,none⟩
def lk2 : List ah:=gS 166 [.aj 2 11,.load 1 false 166,.mv 16,.aU 3 1 1 oz [(0,168)],.app 3 1 8 oz 167 169,.aj 2 11]++[⟨none,.store 1 171 170,none⟩]
def lx2 : List ah:=gS 78 [.mv 12,.bin .add 78 (ci 1)]++gS 12 [.mv 79]
def mz2 : DE:=.seq (.seq (.reg le2) (.cond 77 (.skip) (.exit 2))) (.join (.block 3 (.join (.reg la2) (.join (.seq (.reg ln2) (.cond 87 (.reg ls2) (.skip))) (.seq (.reg lt2) (.join (.seq (.reg ll2) (.block 4 (.loop mj2))) (.join (.reg lb2) (.seq (.join (.reg ly2) (.cond 155 (.exit 3) (.skip))) (.join (.seq (.reg lw2) (.cond 157 (.hyl true true 6 lv2 vz2) (.skip))) (.reg lk2))))))))) (.reg lx2))
def lq2 : List ah:=gS 172 [.aj 2 11,.load 1 false 172,.aQ 1 173 (ci 0),.load 1 false 174]++gS 17 [.mv 175]
def po2 : List ah:=gS 176 [.aj 2 11,.load 1 false 176,.len false 177,.bin .gtr 178 (ci 1)]
def pi2 : List ah:=gS 180 [.mv 0,.load 4 true 11,.call 79 [180,181]]++gS 17 [.mv 182]
def pe2 : List ah:=gS 183 [.mv 0,.mv 0,.aO 184,.aj 4 185,.load 1 false 186,.mv 1,.aU 3 1 1 oz [(0,188)],.app 3 1 8 oz 187 189,.aO 183,.aj 4 191]++[⟨none,.store 1 192 190,none⟩]
def pa2 : List ah:=gS 193 [.mv 0,.mv 0,.aO 194,.aj 5 195,.load 1 false 196,.mv 2,.aU 48 1 1 (.slice none 0 0) [(0,198)],.app 48 1 24 (.slice none 0 0) 197 199,.aO 193,.aj 5 201]++[⟨none,.store 1 202 200,none⟩]
def pr2 : List ah:=gS 203 [.mv 0,.mv 0,.aO 204,.aj 6 205,.load 1 false 206,.mv 17,.aU 3 1 1 oz [(0,208)],.app 3 1 8 oz 207 209,.aO 203,.aj 6 211]++[⟨none,.store 1 212 210,none⟩]
def pn2 : List ah:=gS 213 [.mv 17]++gS 8 [.mv 213]
def c37 : fJ:=⟨214,.seq (.reg sp3) (.seq (.seq (.reg sg3) (.cond 21 (.seq (.reg sb3) (.ret)) (.skip))) (.seq (.seq (.reg sy3) (.cond 23 (.seq (.sfx false false false sw3 pt2) (.ret)) (.skip))) (.join (.seq (.reg sv3) (.block 0 (.loop mx2))) (.seq (.reg mq2) (.seq (.reg lu2) (.join (.seq (.reg li2) (.block 2 (.loop mz2))) (.seq (.reg lq2) (.join (.seq (.reg po2) (.cond 179 (.reg pi2) (.skip))) (.seq (.reg pe2) (.seq (.reg pa2) (.seq (.reg pr2) (.seq (.reg pn2) (.ret))))))))))))),[.tmp 8]⟩
theorem mw2 : fD Tryz.prog 37=some c37.er:=by kernel_rfl
set_option maxHeartbeats 8000000 in
theorem jn2 {P:Program}(hP:P=Tryz.prog)(rules:(List Rule))(zones:(List (aF Range)))(rec:(Int->(List Int)->(aF Int)->(List Node)->(List Decision)->(List Int)->(List (List Int))->(List Int)->Bool->Option (Int×(List Node)×(List Decision)×(List Int)×(List (List Int))×(List Int)×Bool)))(at0:Int)(lv:(List Int))(f:(aF Int))(nodes:(List Node))(leaves:(List Decision))(attr:(List Int))(live:(List (List Int)))(made:(List Int))(full:Bool)(hrec:∀ at0 lv f nodes leaves attr live made full r,rec at0 lv f nodes leaves attr live made full=some r->dX P 37 [.cells [dq aZ rules,dq dD zones,.hd 1,.hd 2,.hd 3,.hd 4,.hd 5,ob full] 90,rE nodes,rF leaves,rC attr,rD live,rC made] [.ptr 0 0,oi at0,dq aH lv,.agg (ca f)] (fun sv own'=>sv=oi r.1/\own'=[.cells [dq aZ rules,dq dD zones,.hd 6,.hd 7,.hd 8,.hd 9,.hd 10,ob r.2.2.2.2.2.2] 90,.gone,.gone,.gone,.gone,.gone,rE r.2.1,rF r.2.2.1,rC r.2.2.2.1,rD r.2.2.2.2.1,rC r.2.2.2.2.2.1]))(r:Int×(List Node)×(List Decision)×(List Int)×(List (List Int))×(List Int)×Bool)(h:NT rules zones rec at0 lv f nodes leaves attr live made full=some r):dX P 37 [.cells [dq aZ rules,dq dD zones,.hd 1,.hd 2,.hd 3,.hd 4,.hd 5,ob full] 90,rE nodes,rF leaves,rC attr,rD live,rC made] [.ptr 0 0,oi at0,dq aH lv,.agg (ca f)] (fun sv own'=>sv=oi r.1/\own'=[.cells [dq aZ rules,dq dD zones,.hd 6,.hd 7,.hd 8,.hd 9,.hd 10,ob r.2.2.2.2.2.2] 90,.gone,.gone,.gone,.gone,.gone,rE r.2.1,rF r.2.2.1,rC r.2.2.2.1,rD r.2.2.2.2.1,rC r.2.2.2.2.2.1]):=by
 refine .OY 6 rfl (Nat.le_of_ble_eq_true rfl) (hP▸mw2) fun K hK=>?_;unfold NT at h;cbv;refine aG h ?_ ?_<;>intro h
 ·cbv;obtain rfl:=oj h;exact hK _ _ [0,1,2,3,4,5,1,2,3,4,5] mx
 ·cbv;refine aG h ?_ ?_<;>intro h
  ·cbv;refine .g h (fun v hv=>eo0 hP _ _ v hv) aJ rfl (fun _=>rfl) fun v1 h=>?_;cbv;obtain⟨r2,hm,h⟩:=Option.bind_eq_some_iff.1 h;refine .DL [0,1,2,3,4,5] (jq2 hP _ _ _ _ _ _ _ _ _ _ hm) mx fun sv0 dG hq _=>?_;obtain⟨rfl,rfl⟩:=hq;clear hm;cbv;obtain rfl:=oj h;exact hK _ _ [0,1,2,3,4,5,7,8,9,10,11] mx
  ·cbv;refine .ga h (fun (_:Unit)=>[.ptr 0 0,oi at0,dq aH lv]++rp 4 .top++[.ptr 6 0]++rp 206 .top) (fun _=>[.cells [dq aZ rules,dq dD zones,.hd 1,.hd 2,.hd 3,.hd 4,.hd 5,ob full] 90,rE nodes,rF leaves,rC attr,rD live,rC made,.cells (ca f) 32]) (fun y hm hr1 Kn1 aC=>?_) fun t h=>?_
   ·have h:=hm;clear hm;cbv;refine .g h (fun (i3:Int)=>[.ptr 0 0,oi at0,dq aH lv]++rp 4 .top++[.ptr 6 0,.top,oi i3]++rp 204 .top) (fun i3=>[.cells [dq aZ rules,dq dD zones,.hd 1,.hd 2,.hd 3,.hd 4,.hd 5,ob full] 90,rE nodes,rF leaves,rC attr,rD live,rC made,.cells (ca f) 32]) (.nz (.aB [0,1,2,3,4,5,6] ?_)) fun s x h hr2 Kn2 bg=>?_
    ·exact mx
    unfold Kr at h;obtain⟨i3,rfl⟩:=ez s;cbv;refine aG h ?_ ?_<;>intro h
    ·cbv;refine .g h (fun (v4:Bool)=>[.ptr 0 0,oi at0,dq aH lv]++rp 4 .top++[.ptr 6 0,.top,oi i3]++rp 50 .top++[ob v4]++rp 153 .top) (fun v4=>[.cells [dq aZ rules,dq dD zones,.hd 1,.hd 2,.hd 3,.hd 4,.hd 5,ob full] 90,rE nodes,rF leaves,rC attr,rD live,rC made,.cells (ca f) 32]) (fun y hm Kn3 aP=>?_) fun t h=>?_
     ·have h:=hm;clear hm;cbv;refine .g h fun i5 h=>?_;cbv;refine .g h fun v6 h=>?_;cbv;refine aG h ?_ ?_<;>intro h
      ·cbv;refine .g h fun i7 h=>?_;cbv;refine .g h fun v8 h=>?_;cbv;refine .g h (fun v hv=>df0 hP _ _ v hv) aJ rfl (fun _=>rfl) fun v9 h=>?_;cbv;obtain rfl:=oj h;exact aP _ _ _ rfl (.nz (.aB [0,1,2,3,4,5,6] mx))
      ·cbv;obtain rfl:=oj h;exact aP _ _ _ rfl (.nz (.aB [0,1,2,3,4,5,6] mx))
     obtain⟨v4,rfl⟩:=ez t;cbv;refine aG h ?_ ?_<;>intro h
     ·cbv;refine .g h fun Ip h=>?_;cbv;refine .g h fun v11 h=>?_;cbv;obtain rfl:=oj h;obtain rfl:=hr2 _ rfl;obtain rfl:=hr1 _ rfl;exact hK _ _ [0,1,2,3,4,5,1,2,3,4,5] mx
     ·cbv;obtain rfl:=oj h;exact bg _ _ _ rfl (.nz (.aB [0,1,2,3,4,5,6] mx))
    ·cbv;obtain rfl:=oj h;obtain rfl:=hr2 _ rfl;exact aC _ _ _ rfl (.nz (.aB [0,1,2,3,4,5,6] mx))
   cbv;obtain⟨r12,hm,h⟩:=Option.bind_eq_some_iff.1 h;refine .DL [0,1,2,3,4,5] (jz2 hP _ _ _ _ _ _ _ _ _ _ _ hm) mx fun sv0 dG hq _=>?_;obtain⟨rfl,rfl⟩:=hq;clear hm;cbv;refine .g h (fun ((mW,kG,rQ,rO,rM,rP,vM,lX):(List Node)×(List Decision)×(List Int)×(List (List Int))×(List Int)×Bool×(List Int)×(List Int))=>[.ptr 0 0,oi at0,dq aH lv]++rp 8 .top++[.ptr 11 0]++rp 202 .top) (fun (mW,kG,rQ,rO,rM,rP,vM,lX)=>[.cells [dq aZ rules,dq dD zones,.hd 6,.hd 7,.hd 8,.hd 9,.hd 10,ob rP] 90,.gone,.gone,.gone,.gone,.gone,rE mW,rF kG,rC rQ,rD rO,rC rM,.cells [oi at0,.hd 12,.hd 13,oi 0] 50,rC vM,rC lX]) (fun y hm Kn1 aC=>?_) fun t h=>?_
   ·have h:=hm;clear hm;cbv;refine .g h (fun ((fQ,eX,iY,iU,iT,iV,f27,fO,eP,i30):(List Node)×(List Decision)×(List Int)×(List (List Int))×(List Int)×Bool×(aF Int)×(List Int)×(List Int)×Int)=>[.ptr 0 0,oi at0,dq aH lv]++rp 4 .top++[.ptr 11 0,.top,.top,dq aH r12,.ptr 12 0,oi i30]++rp 201 .top) (fun (fQ,eX,iY,iU,iT,iV,f27,fO,eP,i30)=>[.cells [dq aZ rules,dq dD zones,.hd 6,.hd 7,.hd 8,.hd 9,.hd 10,ob iV] 90,.gone,.gone,.gone,.gone,.gone,rE fQ,rF eX,rC iY,rD iU,rC iT,.cells (ca f27) 32,.cells [oi at0,.hd 13,.hd 14,oi 0] 50,rC fO,rC eP]) (.DF 7 1 3 1 _ 50 rfl rfl (.DF 7 2 3 1 _ 50 rfl rfl (.nz (.aB [0,1,2,3,4,5,1,2,3,4,5,6,7,8,9] ?_)))) fun s x h hr2 Kn2 bg=>?_
    ·exact mx
    unfold Jq at h;obtain⟨fQ,eX,iY,iU,iT,iV,f27,fO,eP,i30⟩:=s;cbv;refine aG h ?_ ?_<;>intro h
    ·cbv;refine .g h (fun ((o8,lW,vO,vg,uX,vF,f37,vK,vw,i40):(List Node)×(List Decision)×(List Int)×(List (List Int))×(List Int)×Bool×(aF Int)×(List Int)×(List Int)×Int)=>[.ptr 0 0,oi at0,dq aH lv]++rp 4 .top++[.ptr 11 0,.top,.top,dq aH r12,.ptr 12 0,oi i40]++rp 201 .top) (fun (o8,lW,vO,vg,uX,vF,f37,vK,vw,i40)=>[.cells [dq aZ rules,dq dD zones,.hd 6,.hd 7,.hd 8,.hd 9,.hd 10,ob vF] 90,.gone,.gone,.gone,.gone,.gone,rE o8,rF lW,rC vO,rD vg,rC uX,.cells (ca f37) 32,.cells [oi at0,.hd 13,.hd 14,oi 0] 50,rC vK,rC vw]) (fun y hm Kn3 aP=>?_) fun t h=>?_
     ·have h:=hm;clear hm;cbv;refine .g h (fun ((f41,i42):(aF Int)×Int)=>[.ptr 0 0,oi at0,dq aH lv]++rp 4 .top++[.ptr 11 0,.top,.top,dq aH r12,.ptr 12 0,oi i42]++rp 201 .top) (fun (f41,i42)=>[.cells [dq aZ rules,dq dD zones,.hd 6,.hd 7,.hd 8,.hd 9,.hd 10,ob iV] 90,.gone,.gone,.gone,.gone,.gone,rE fQ,rF eX,rC iY,rD iU,rC iT,.cells (ca f41) 32,.cells [oi at0,.hd 13,.hd 14,oi 0] 50,rC fO,rC eP]) (fun y hm ku aY=>?_) fun t h=>?_
      ·have h:=hm;clear hm;cbv;refine .g h (fun v hv=>Jb hP v hv) aJ rfl (fun _=>rfl) fun v43 h=>?_;cbv
       refine .c10 h ?_ ?_ ?_ ?_ ?_ ?_ ?_ ?_ ?_ ?_<;>(
        intro Us h;cbv;refine .at _ Us (by decide) ?_;cbv;obtain rfl:=oj h;exact aY _ _ _ rfl (.nz (.aB [0,1,2,3,4,5,6,7,8,9,10,11,12,13,14] mx))
        )
      obtain⟨f41,i42⟩:=t;cbv;refine .g h (fun ((f45,i46):(aF Int)×Int)=>[.ptr 0 0,oi at0,dq aH lv]++rp 4 .top++[.ptr 11 0,.top,.top,dq aH r12,.ptr 12 0,oi i46]++rp 201 .top) (fun (f45,i46)=>[.cells [dq aZ rules,dq dD zones,.hd 6,.hd 7,.hd 8,.hd 9,.hd 10,ob iV] 90,.gone,.gone,.gone,.gone,.gone,rE fQ,rF eX,rC iY,rD iU,rC iT,.cells (ca f45) 32,.cells [oi at0,.hd 13,.hd 14,oi 0] 50,rC fO,rC eP]) (fun y hm ku aY=>?_) fun t h=>?_
      ·have h:=hm;clear hm;cbv;refine aG h ?_ ?_<;>intro h
       ·cbv;refine .g h (fun _=>rfl) fun x47 h=>?_;cbv
        refine .c10 h ?_ ?_ ?_ ?_ ?_ ?_ ?_ ?_ ?_ ?_<;>(
         intro hni48 h;cbv;obtain rfl:=oj h;exact aY _ _ _ rfl (.nz (.aB [0,1,2,3,4,5,6,7,8,9,10,11,12,13,14] mx))
         )
       ·cbv;obtain rfl:=oj h;exact aY _ _ _ rfl (.nz (.aB [0,1,2,3,4,5,6,7,8,9,10,11,12,13,14] mx))
      obtain⟨f45,i46⟩:=t;cbv;refine .g h (fun ((i49,uw):Int×(List Int))=>[.ptr 0 0,oi at0,dq aH lv]++rp 4 .top++[.ptr 11 0,.top,.top,dq aH r12,.ptr 12 0,oi i49,.hd 15]++rp 200 .top) (fun (i49,uw)=>[.cells [dq aZ rules,dq dD zones,.hd 6,.hd 7,.hd 8,.hd 9,.hd 10,ob iV] 90,.gone,.gone,.gone,.gone,.gone,rE fQ,rF eX,rC iY,rD iU,rC iT,.cells (ca f45) 32,.cells [oi at0,.hd 13,.hd 14,oi 0] 50,rC fO,rC eP,rC uw]) (fun y hm ku aY=>?_) fun t h=>?_
      ·have h:=hm;clear hm;cbv;refine .g h (fun ((i51,kQ,EI):Int×(List Int)×Int)=>[.ptr 0 0,oi at0,dq aH lv]++rp 4 .top++[.ptr 11 0,.top,.top,dq aH r12,.ptr 12 0,oi i51,.hd 15,oi EI]++rp 199 .top) (fun (i51,kQ,EI)=>[.cells [dq aZ rules,dq dD zones,.hd 6,.hd 7,.hd 8,.hd 9,.hd 10,ob iV] 90,.gone,.gone,.gone,.gone,.gone,rE fQ,rF eX,rC iY,rD iU,rC iT,.cells (ca f45) 32,.cells [oi at0,.hd 13,.hd 14,oi 0] 50,rC fO,rC eP,rC kQ]) (.Mc 13 3 1 rfl (.nz (.aB [0,1,2,3,4,5,6,7,8,9,10,11,12,13,14,15] ?_))) fun s x h wo Hr jH=>?_
       ·exact mx
       unfold Qk at h;obtain⟨i51,kQ,EI⟩:=s;cbv;refine aG h ?_ ?_<;>intro h
       ·cbv;refine .g h (fun ((i54,uq):Int×(List Int))=>[.ptr 0 0,oi at0,dq aH lv]++rp 4 .top++[.ptr 11 0,.top,.top,dq aH r12,.ptr 12 0,oi i54,.hd 15,oi EI]++rp 199 .top) (fun (i54,uq)=>[.cells [dq aZ rules,dq dD zones,.hd 6,.hd 7,.hd 8,.hd 9,.hd 10,ob iV] 90,.gone,.gone,.gone,.gone,.gone,rE fQ,rF eX,rC iY,rD iU,rC iT,.cells (ca f45) 32,.cells [oi at0,.hd 13,.hd 14,oi 0] 50,rC fO,rC eP,rC uq]) (fun y hm N9 jY=>?_) fun t h=>?_
        ·have h:=hm;clear hm;cbv;refine .g h (fun ((i56,F7,Gf):Int×Int×Int)=>[.ptr 0 0,oi at0,dq aH lv]++rp 4 .top++[.ptr 11 0,.top,.top,dq aH r12,.ptr 12 0,oi i56,.hd 15,oi EI,.ptr 16 0]++rp 198 .top) (fun (i56,F7,Gf)=>[.cells [dq aZ rules,dq dD zones,.hd 6,.hd 7,.hd 8,.hd 9,.hd 10,ob iV] 90,.gone,.gone,.gone,.gone,.gone,rE fQ,rF eX,rC iY,rD iU,rC iT,.cells (ca f45) 32,.cells [oi at0,.hd 13,.hd 14,oi 0] 50,rC fO,rC eP,rC kQ,.cells [oi F7,oi Gf] 52]) (fun y hm YH uO=>?_) fun t h=>?_
         ·have h:=hm;clear hm;cbv;refine .g h (fun _=>rfl) fun bW h=>?_;cbv;refine .g h (fun _=>rfl) fun Y6 h=>?_;cbv
          refine .c10 h ?_ ?_ ?_ ?_ ?_ ?_ ?_ ?_ ?_ ?_<;>(
           intro hni61 h;cbv;obtain rfl:=oj h;exact uO _ _ _ rfl (.nz (.aB [0,1,2,3,4,5,6,7,8,9,10,11,12,13,14,15,16] mx))
           )
         obtain⟨i56,F7,Gf⟩:=t;cbv;refine .g h (fun ((i62,v63):Int×Bool)=>[.ptr 0 0,oi at0,dq aH lv]++rp 4 .top++[.ptr 11 0,.top,.top,dq aH r12,.ptr 12 0,oi i62,.hd 15,oi EI]++rp 111 .top++[ob v63]++rp 87 .top) (fun (i62,v63)=>[.cells [dq aZ rules,dq dD zones,.hd 6,.hd 7,.hd 8,.hd 9,.hd 10,ob iV] 90,.gone,.gone,.gone,.gone,.gone,rE fQ,rF eX,rC iY,rD iU,rC iT,.cells (ca f45) 32,.cells [oi at0,.hd 13,.hd 14,oi 0] 50,rC fO,rC eP,rC kQ]) (fun y hm YH uO=>?_) fun t h=>?_
         ·have h:=hm;clear hm;cbv
          refine .c10 h ?_ ?_ ?_ ?_ ?_ ?_ ?_ ?_ ?_ ?_<;>(
           intro MI h;cbv;refine aG h ?_ ?_<;>intro h
           ·cbv;refine .at _ MI (by decide) ?_;cbv;obtain rfl:=oj h;exact uO _ _ _ rfl (.nz (.aB [0,1,2,3,4,5,6,7,8,9,10,11,12,13,14,15] mx))
           ·cbv;obtain rfl:=oj h;exact uO _ _ _ rfl (.nz (.aB [0,1,2,3,4,5,6,7,8,9,10,11,12,13,14,15] mx))
           )
         obtain⟨i62,v63⟩:=t;cbv;refine aG h ?_ ?_<;>intro h
         ·cbv;refine .g h (fun _=>rfl) fun x65 h=>?_;cbv;refine .g (e:=aH) h (gU aJ (jP _)) fun l66 h=>?_;cbv;refine .g h rfl (fun _=>rfl) (by decide) fun Et h=>?_;cbv;obtain rfl:=oj h;exact jY _ _ _ rfl (.nz (.aB [0,1,2,3,4,5,6,7,8,9,10,11,12,13,14,17] mx))
         ·cbv;obtain rfl:=oj h;exact jY _ _ _ rfl (.nz (.aB [0,1,2,3,4,5,6,7,8,9,10,11,12,13,14,15] mx))
        obtain⟨i54,uq⟩:=t;cbv;obtain rfl:=oj h;exact jH _ _ _ rfl (.nz (.aB [0,1,2,3,4,5,6,7,8,9,10,11,12,13,14,15] mx))
       ·cbv;obtain rfl:=oj h;obtain rfl:=wo _ rfl;exact aY _ _ _ rfl (.nz (.aB [0,1,2,3,4,5,6,7,8,9,10,11,12,13,14,15] mx))
      obtain⟨i49,uw⟩:=t;cbv;refine .g h (fun ((jW,ji,mg,lQ,lN,lZ,i74,sF):(List Node)×(List Decision)×(List Int)×(List (List Int))×(List Int)×Bool×Int×Int)=>[.ptr 0 0,oi at0,dq aH lv]++rp 4 .top++[.ptr 11 0,.top,.top,dq aH r12,.ptr 12 0,oi i74]++rp 3 .top++[oi sF]++rp 197 .top) (fun (jW,ji,mg,lQ,lN,lZ,i74,sF)=>[.cells [dq aZ rules,dq dD zones,.hd 6,.hd 7,.hd 8,.hd 9,.hd 10,ob lZ] 90,.gone,.gone,.gone,.gone,.gone,rE jW,rF ji,rC mg,rD lQ,rC lN,.cells (ca f45) 32,.cells [oi at0,.hd 13,.hd 14,oi 0] 50,rC fO,rC eP]) (fun y hm ku aY=>?_) fun t h=>?_
      ·have h:=hm;clear hm;cbv;obtain⟨Jw,hm,h⟩:=Option.bind_eq_some_iff.1 h;refine .DL [0,6,7,8,9,10] (hrec _ _ _ _ _ _ _ _ _ _ hm) mx fun sv0 dG hq _=>?_;obtain⟨rfl,rfl⟩:=hq;clear hm;cbv;obtain rfl:=oj h;exact aY _ _ _ rfl (.nz (.aB [0,1,2,3,4,5,16,17,18,19,20,11,12,13,14] mx))
      obtain⟨jW,ji,mg,lQ,lN,lZ,i74,sF⟩:=t;cbv;refine .g h (fun ((i77,v78):Int×Bool)=>[.ptr 0 0,oi at0,dq aH lv]++rp 4 .top++[.ptr 11 0,.top,.top,dq aH r12,.ptr 12 0,oi i77]++rp 3 .top++[oi sF]++rp 138 .top++[ob v78]++rp 58 .top) (fun (i77,v78)=>[.cells [dq aZ rules,dq dD zones,.hd 6,.hd 7,.hd 8,.hd 9,.hd 10,ob lZ] 90,.gone,.gone,.gone,.gone,.gone,rE jW,rF ji,rC mg,rD lQ,rC lN,.cells (ca f45) 32,.cells [oi at0,.hd 13,.hd 14,oi 0] 50,rC fO,rC eP]) (fun y hm ku aY=>?_) fun t h=>?_
      ·have h:=hm;clear hm;cbv;refine aG h ?_ ?_<;>intro h
       ·cbv;refine .g h fun i79 h=>?_;cbv;refine .g h fun v80 h=>?_;cbv;obtain rfl:=oj h;exact aY _ _ _ rfl (.nz (.aB [0,1,2,3,4,5,6,7,8,9,10,11,12,13,14] mx))
       ·cbv;obtain rfl:=oj h;exact aY _ _ _ rfl (.nz (.aB [0,1,2,3,4,5,6,7,8,9,10,11,12,13,14] mx))
      obtain⟨i77,v78⟩:=t;cbv;refine aG h ?_ ?_<;>intro h
      ·cbv;obtain rfl:=oj h;exact aP _ _ _ rfl (.nz (.aB [0,1,2,3,4,5,6,7,8,9,10,11,12,13,14] mx))
      ·cbv;refine .g h (fun ((vJ,i82):(List Int)×Int)=>[.ptr 0 0,oi at0,dq aH lv]++rp 4 .top++[.ptr 11 0,.top,.top,dq aH r12,.ptr 12 0,oi i82]++rp 3 .top++[oi sF]++rp 197 .top) (fun (vJ,i82)=>[.cells [dq aZ rules,dq dD zones,.hd 6,.hd 7,.hd 8,.hd 9,.hd 10,ob lZ] 90,.gone,.gone,.gone,.gone,.gone,rE jW,rF ji,rC mg,rD lQ,rC lN,.cells (ca f45) 32,.cells [oi at0,.hd 13,.hd 14,oi 0] 50,rC vJ,rC eP]) (fun y hm ku aY=>?_) fun t h=>?_
       ·have h:=hm;clear hm;cbv;refine aG h ?_ ?_<;>intro h
        ·cbv
         refine .c10 h ?_ ?_ ?_ ?_ ?_ ?_ ?_ ?_ ?_ ?_<;>(
          intro hni83 h;cbv;refine .g (e:=aH) h (gU aJ (jP _)) fun l84 h=>?_;cbv;refine .g h rfl (fun _=>rfl) (by decide) fun l85 h=>?_;cbv;obtain rfl:=oj h;exact aY _ _ _ rfl (.nz (.aB [0,1,2,3,4,5,6,7,8,9,10,11,12,16,14] mx))
          )
        ·cbv;obtain rfl:=oj h;exact aY _ _ _ rfl (.nz (.aB [0,1,2,3,4,5,6,7,8,9,10,11,12,13,14] mx))
       obtain⟨vJ,i82⟩:=t;cbv;refine .g (e:=aH) h (gU aJ (jP _)) fun l86 h=>?_;cbv;refine .g h rfl (fun _=>rfl) (by decide) fun l87 h=>?_;cbv;obtain rfl:=oj h;exact aP _ _ _ rfl (.nz (.aB [0,1,2,3,4,5,6,7,8,9,10,11,12,13,16] mx))
     obtain⟨o8,lW,vO,vg,uX,vF,f37,vK,vw,i40⟩:=t;cbv;obtain rfl:=oj h;exact bg _ _ _ rfl (.nz (.aB [0,1,2,3,4,5,6,7,8,9,10,11,12,13,14] mx))
    ·cbv;obtain rfl:=oj h;obtain rfl:=hr2 _ rfl;exact aC _ _ _ rfl (.nz (.aB [0,1,2,3,4,5,6,7,8,9,10,12,13,14] mx))
   obtain⟨mW,kG,rQ,rO,rM,rP,vM,lX⟩:=t;cbv;refine .g h fun i88 h=>?_;cbv;refine .g h fun v89 h=>?_;cbv;refine .g h (fun ((oW,lS,vN,uZ,uV,vC,qp):(List Node)×(List Decision)×(List Int)×(List (List Int))×(List Int)×Bool×Int)=>[.ptr 0 0,oi at0,dq aH lv]++rp 14 .top++[oi qp]++rp 196 .top) (fun (oW,lS,vN,uZ,uV,vC,qp)=>[.cells [dq aZ rules,dq dD zones,.hd 6,.hd 7,.hd 8,.hd 9,.hd 10,ob vC] 90,.gone,.gone,.gone,.gone,.gone,rE oW,rF lS,rC vN,rD uZ,rC uV]) (fun y hm Kn1 aC=>?_) fun t h=>?_
   ·have h:=hm;clear hm;cbv;refine aG h ?_ ?_<;>intro h
    ·cbv;obtain⟨Jv,hm,h⟩:=Option.bind_eq_some_iff.1 h;refine .DL [0,6,7,8,9,10] (ls1 hP _ _ _ _ _ _ _ _ _ _ hm) mx fun sv0 dG hq _=>?_;obtain⟨rfl,rfl⟩:=hq;clear hm;cbv;obtain rfl:=oj h;exact aC _ _ _ rfl (.nz (.aB [0,1,2,3,4,5,14,15,16,17,18] mx))
    ·cbv;obtain rfl:=oj h;exact aC _ _ _ rfl (.nz (.aB [0,1,2,3,4,5,6,7,8,9,10] mx))
   obtain⟨oW,lS,vN,uZ,uV,vC,qp⟩:=t;cbv;refine .g (e:=aH) h (gU aJ (jP _)) fun l98 h=>?_;cbv;refine .g h rfl (fun _=>rfl) (by decide) fun l99 h=>?_;cbv;refine .g (e:=xZ) h (gU aJ (jP _)) fun SS h=>?_;cbv;refine .g h rfl (fun _=>rfl) (by decide) fun SQ h=>?_;cbv;refine .g (e:=aH) h (gU aJ (jP _)) fun SN h=>?_;cbv;refine .g h rfl (fun _=>rfl) (by decide) fun SL h=>?_;cbv;obtain rfl:=oj h;exact hK _ _ [0,1,2,3,4,5,6,7,12,14,16] mx
theorem ym1 {P:Program}(hP:P=Tryz.prog)(rules:(List Rule))(zones:(List (aF Range))):∀ (n:Nat)(at0:Int)(lv:(List Int))(f:(aF Int))(nodes:(List Node))(leaves:(List Decision))(attr:(List Int))(live:(List (List Int)))(made:(List Int))(full:Bool)(r:Int×(List Node)×(List Decision)×(List Int)×(List (List Int))×(List Int)×Bool),Ic rules zones n at0 lv f nodes leaves attr live made full=some r->dX P 37 [.cells [dq aZ rules,dq dD zones,.hd 1,.hd 2,.hd 3,.hd 4,.hd 5,ob full] 90,rE nodes,rF leaves,rC attr,rD live,rC made] [.ptr 0 0,oi at0,dq aH lv,.agg (ca f)] (fun sv own'=>sv=oi r.1/\own'=[.cells [dq aZ rules,dq dD zones,.hd 6,.hd 7,.hd 8,.hd 9,.hd 10,ob r.2.2.2.2.2.2] 90,.gone,.gone,.gone,.gone,.gone,rE r.2.1,rF r.2.2.1,rC r.2.2.2.1,rD r.2.2.2.2.1,rC r.2.2.2.2.2.1])
 |0,_,_,_,_,_,_,_,_,_,_,h=>by cases h
 |n+1,at0,lv,f,nodes,leaves,attr,live,made,full,r,h=>jn2 hP rules zones _ at0 lv f nodes leaves attr live made full (ym1 hP rules zones n) r h
end Go.SX.Td
