/- Parts of the proof. -/
import Derived.Test.YtllbabjgpdmblaaGreatDoorZTdT
import Derived.Test.YtllbabjgpdmblaaGreatDoorZTz56
import Derived.Test.YtllbabjgpdmblaaGreatDoorZTd49
import Derived.Test.YtllbabjgpdmblaaGreatDoorZTd32d
set_option linter.unusedSimpArgs false
set_option linter.unusedVariables false
set_option linter.unusedSectionVars false
namespace Go.SX.Td
open Go Go.SX Go.Proofs
set_option maxRecDepth 100000
def yi3 : List ah:=gS 3 [.box 50 1,.mv (ci 0)]
def ye3 : List ah:=gS 5 [.mv (ci 0)]
def ya3 : List ah:=gS 6 [.mv 5,.mv 0,.aO 7,.aj 2 8,.aj 0 9,.load 1 false 10,.len false 11,.bin .lss 6 12]
def yr3 : List ah:=gS 16 [.mv 0,.aO 16,.aj 2 17,.aj 0 18,.load 1 false 19,.mv 5,.aQ 4 20 21,.load 4 true 22,.load 4 true 3,.call 29 [23,24]]
def yn3 : List ah:=gS 26 [.mv 5]++gS 4 [.mv 26]
def yt3 : List ah:=gS 14 [.mv 5,.bin .add 14 (ci 1)]++gS 5 [.mv 15]
def yo3 : DE:=.seq (.seq (.reg ya3) (.cond 13 (.skip) (.exit 0))) (.seq (.block 1 (.seq (.par false true false 9 yr3) (.cond 25 (.seq (.reg yn3) (.ret)) (.skip)))) (.reg yt3))
def yl3 : List ah:=gS 27 [.mv 0,.mv 0,.aO 28,.aj 2 29,.aj 0 30,.load 1 false 31,.load 4 true 3,.aU 50 4 1 (.agg #[oz,(.slice none 0 0),(.slice none 0 0),oz]) [(0,33)],.app 50 4 64 (.agg #[oz,(.slice none 0 0),(.slice none 0 0),oz]) 32 34,.aO 27,.aj 2 36,.aj 0 37]
def fh2 : ah:=⟨none,.store 1 38 35,none⟩
def yd3 : List ah:=gS 39 [.mv 0,.mv 0,.aO 40,.aj 7 41,.load 1 false 42,.mv 43]++gQ 44 false 45 [.mv 0,.aO 45,.aj 2 46,.aj 0 47,.load 1 false 48,.len false 49,.bin .gtr 50 (ci 20000)]++gS 52 [.pick 44 (cB true) 51,.aO 39,.aj 7 53]++[⟨none,.store 1 54 52,none⟩]
def yc3 : List ah:=gS 55 [.mv 0,.aO 55,.aj 2 56,.aj 0 57,.load 1 false 58,.len false 59,.bin .sub 60 (ci 1)]++gS 4 [.mv 61]
def c79 : fJ:=⟨62,.seq (.reg yi3) (.join (.seq (.reg ye3) (.block 0 (.loop yo3))) (.seq (.hyl true true 9 yl3 fh2) (.join (.reg yd3) (.seq (.reg yc3) (.ret))))),[.tmp 4]⟩
theorem ff2 : fD Tryz.prog 79=some c79.er:=by kernel_rfl
set_option maxHeartbeats 8000000 in
theorem ls1 {P:Program}(hP:P=Tryz.prog)(rules:(List Rule))(zones:(List (aF Range)))(n:Node)(nodes:(List Node))(leaves:(List Decision))(attr:(List Int))(live:(List (List Int)))(made:(List Int))(full:Bool)(r:Int×(List Node)×(List Decision)×(List Int)×(List (List Int))×(List Int)×Bool)(h:NU rules zones n nodes leaves attr live made full=some r):dX P 79 [.cells [dq aZ rules,dq dD zones,.hd 1,.hd 2,.hd 3,.hd 4,.hd 5,ob full] 90,rE nodes,rF leaves,rC attr,rD live,rC made] [.ptr 0 0,.agg [oi n.Attr,dq aH n.aI,dq aH n.Kids,oi n.Leaf]] (fun sv own'=>sv=oi r.1/\own'=[.cells [dq aZ rules,dq dD zones,.hd 6,.hd 7,.hd 8,.hd 9,.hd 10,ob r.2.2.2.2.2.2] 90,.gone,.gone,.gone,.gone,.gone,rE r.2.1,rF r.2.2.1,rC r.2.2.2.1,rD r.2.2.2.2.1,rC r.2.2.2.2.2.1]):=by
 refine .OY 6 rfl (Nat.le_of_ble_eq_true rfl) (hP▸ff2) fun K hK=>?_;unfold NU at h;cbv;refine .ga h (fun (_:Unit)=>[.ptr 0 0,.top,.top,.ptr 6 0]++rp 58 .top) (fun _=>[.cells [dq aZ rules,dq dD zones,.hd 1,.hd 2,.hd 3,.hd 4,.hd 5,ob full] 90,rE nodes,rF leaves,rC attr,rD live,rC made,.cells [oi n.Attr,dq aH n.aI,dq aH n.Kids,oi n.Leaf] 50]) (fun y hm hr1 Kn1 aC=>?_) fun t h=>?_
 ·have h:=hm;clear hm;cbv;refine .g h (fun (i1:Int)=>[.ptr 0 0,.top,.top,.ptr 6 0,.top,oi i1]++rp 56 .top) (fun i1=>[.cells [dq aZ rules,dq dD zones,.hd 1,.hd 2,.hd 3,.hd 4,.hd 5,ob full] 90,rE nodes,rF leaves,rC attr,rD live,rC made,.cells [oi n.Attr,dq aH n.aI,dq aH n.Kids,oi n.Leaf] 50]) (.nz (.aB [0,1,2,3,4,5,6] ?_)) fun s x h hr2 Kn2 bg=>?_
  ·exact mx
  unfold Ny at h;obtain⟨i1,rfl⟩:=ez s;cbv;refine aG h ?_ ?_<;>intro h
  ·cbv;refine .g h fun i2 h=>?_;cbv;refine .g h fun v3 h=>?_;cbv;refine .g h (fun v hv=>lv0 hP _ _ v hv) aJ rfl (fun _=>rfl) fun v4 h=>?_;cbv;refine aG h ?_ ?_<;>intro h
   ·cbv;obtain rfl:=oj h;obtain rfl:=hr2 _ rfl;obtain rfl:=hr1 _ rfl;exact hK _ _ [0,1,2,3,4,5,1,2,3,4,5] mx
   ·cbv;obtain rfl:=oj h;exact bg _ _ _ rfl (.nz (.aB [0,1,2,3,4,5,6] mx))
  ·cbv;obtain rfl:=oj h;obtain rfl:=hr2 _ rfl;exact aC _ _ _ rfl (.nz (.aB [0,1,2,3,4,5,6] mx))
 cbv;refine .g (e:=bC) h (gU aJ (jP _)) fun l5 h=>?_;cbv;refine .g h rfl (fun _=>rfl) (by decide) fun l6 h=>?_;cbv;refine .g h (fun (zl:Bool)=>[.ptr 0 0]++rp 61 .top) (fun zl=>[.cells [dq aZ rules,dq dD zones,.hd 6,.hd 2,.hd 3,.hd 4,.hd 5,ob zl] 90,.gone,rF leaves,rC attr,rD live,rC made,rE l6]) (fun y hm Kn1 aC=>?_) fun t h=>?_
 ·have h:=hm;clear hm;cbv;refine aG h ?_ ?_<;>intro h
  ·cbv;obtain rfl:=oj h;exact aC _ _ _ rfl (.nz (.aB [0,1,2,3,4,5,7] mx))
  ·cbv;obtain rfl:=oj h;exact aC _ _ _ rfl (.nz (.aB [0,1,2,3,4,5,7] mx))
 obtain⟨zl,rfl⟩:=ez t;cbv;obtain rfl:=oj h;exact hK _ _ [0,1,2,3,4,5,6,2,3,4,5] mx
def kz3 : List ah:=gS 3 [.box 44 1,.mv (ci 0)]
def kq3 : List ah:=gS 5 [.mv (ci (-1))]
def ju3 : List ah:=gS 6 [.mv (ci 0)]
def jo3 : List ah:=gS 7 [.mv 6,.mv 0,.aO 8,.aj 2 9,.aj 1 10,.load 1 false 11,.len false 12,.bin .lss 7 13]
def ji3 : List ah:=gS 17 [.mv 0,.aO 17,.aj 2 18,.aj 1 19,.load 1 false 20,.mv 6,.aQ 16 21 22,.load 16 true 23,.load 16 true 3,.beq false [.bool,.bool,.bool,.int,.int,.int,.int,.int,.int,.int,.int,.int,.int,.int,.int,.int] 24 25]
def je3 : List ah:=gS 27 [.mv 6]++gS 5 [.mv 27]
def ja3 : List ah:=gS 15 [.mv 6,.bin .add 15 (ci 1)]++gS 6 [.mv 16]
def kj3 : DE:=.seq (.seq (.reg jo3) (.cond 14 (.skip) (.exit 0))) (.join (.block 1 (.seq (.par true true true 9 ji3) (.cond 26 (.reg je3) (.skip)))) (.reg ja3))
def jr3 : List ah:=gS 28 [.mv 5,.bin .lss 28 (ci 0)]
def jn3 : List ah:=gS 30 [.mv 0,.aO 30,.aj 2 31,.aj 1 32,.load 1 false 33,.len false 34]++gS 5 [.mv 35]
def dd2 : List ah:=gS 36 [.mv 0,.mv 0,.aO 37,.aj 2 38,.aj 1 39,.load 1 false 40,.load 16 true 3,.aU 44 16 1 (.agg #[(.bool false),(.bool false),(.bool false),oz,oz,oz,oz,oz,oz,oz,oz,oz,oz,oz,oz,oz]) [(0,42)],.app 44 16 112 (.agg #[(.bool false),(.bool false),(.bool false),oz,oz,oz,oz,oz,oz,oz,oz,oz,oz,oz,oz,oz]) 41 43,.aO 36,.aj 2 45,.aj 1 46]
def vq2 : ah:=⟨none,.store 1 47 44,none⟩
def dc2 : List ah:=gS 48 [.mv 0,.mv 5,.build (.agg #[oz,(.slice none 0 0),(.slice none 0 0),oz]) [((3,1),49)],.call 79 [48,50]]++gS 4 [.mv 51]
def c76 : fJ:=⟨52,.seq (.reg kz3) (.seq (.reg kq3) (.join (.seq (.reg ju3) (.block 0 (.loop kj3))) (.join (.seq (.reg jr3) (.cond 29 (.seq (.reg jn3) (.hyl true true 9 dd2 vq2)) (.skip))) (.seq (.reg dc2) (.ret))))),[.tmp 4]⟩
theorem dl2 : fD Tryz.prog 76=some c76.er:=by kernel_rfl
set_option maxHeartbeats 8000000 in
theorem jq2 {P:Program}(hP:P=Tryz.prog)(rules:(List Rule))(zones:(List (aF Range)))(d:Decision)(nodes:(List Node))(leaves:(List Decision))(attr:(List Int))(live:(List (List Int)))(made:(List Int))(full:Bool)(r:Int×(List Node)×(List Decision)×(List Int)×(List (List Int))×(List Int)×Bool)(h:VI rules zones d nodes leaves attr live made full=some r):dX P 76 [.cells [dq aZ rules,dq dD zones,.hd 1,.hd 2,.hd 3,.hd 4,.hd 5,ob full] 90,rE nodes,rF leaves,rC attr,rD live,rC made] [.ptr 0 0,.agg [ob d.Allowed,ob d.Together,ob d.Single,oi d.Limit,oi d.Price,oi d.pG.Num,oi d.pG.Den,oi d.oQ.Num,oi d.oQ.Den,oi d.Cap.Num,oi d.Cap.Den,oi d.eF.Num,oi d.eF.Den,oi d.dH.Num,oi d.dH.Den,oi d.By]] (fun sv own'=>sv=oi r.1/\own'=[.cells [dq aZ rules,dq dD zones,.hd 6,.hd 7,.hd 8,.hd 9,.hd 10,ob r.2.2.2.2.2.2] 90,.gone,.gone,.gone,.gone,.gone,rE r.2.1,rF r.2.2.1,rC r.2.2.2.1,rD r.2.2.2.2.1,rC r.2.2.2.2.2.1]):=by
 refine .OY 6 rfl (Nat.le_of_ble_eq_true rfl) (hP▸dl2) fun K hK=>?_;unfold VI at h;cbv;refine .g h (fun (Qs:Int)=>[.ptr 0 0,.top,.top,.ptr 6 0,.top,oi Qs]++rp 46 .top) (fun Qs=>[.cells [dq aZ rules,dq dD zones,.hd 1,.hd 2,.hd 3,.hd 4,.hd 5,ob full] 90,rE nodes,rF leaves,rC attr,rD live,rC made,.cells [ob d.Allowed,ob d.Together,ob d.Single,oi d.Limit,oi d.Price,oi d.pG.Num,oi d.pG.Den,oi d.oQ.Num,oi d.oQ.Den,oi d.Cap.Num,oi d.Cap.Den,oi d.eF.Num,oi d.eF.Den,oi d.dH.Num,oi d.dH.Den,oi d.By] 44]) (fun y hm Kn1 aC=>?_) fun t h=>?_
 ·have h:=hm;clear hm;cbv;refine .g h (fun ((at2,i3):Int×Int)=>[.ptr 0 0,.top,.top,.ptr 6 0,.top,oi at2,oi i3]++rp 45 .top) (fun (at2,i3)=>[.cells [dq aZ rules,dq dD zones,.hd 1,.hd 2,.hd 3,.hd 4,.hd 5,ob full] 90,rE nodes,rF leaves,rC attr,rD live,rC made,.cells [ob d.Allowed,ob d.Together,ob d.Single,oi d.Limit,oi d.Price,oi d.pG.Num,oi d.pG.Den,oi d.oQ.Num,oi d.oQ.Den,oi d.Cap.Num,oi d.Cap.Den,oi d.eF.Num,oi d.eF.Den,oi d.dH.Num,oi d.dH.Den,oi d.By] 44]) (.nz (.aB [0,1,2,3,4,5,6] ?_)) fun s x h hr2 Kn2 bg=>?_
  ·exact mx
  unfold O4 at h;obtain⟨at2,i3⟩:=s;cbv;refine aG h ?_ ?_<;>intro h
  ·cbv;refine .g h (fun (at4:Int)=>[.ptr 0 0,.top,.top,.ptr 6 0,.top,oi at4,oi i3]++rp 45 .top) (fun at4=>[.cells [dq aZ rules,dq dD zones,.hd 1,.hd 2,.hd 3,.hd 4,.hd 5,ob full] 90,rE nodes,rF leaves,rC attr,rD live,rC made,.cells [ob d.Allowed,ob d.Together,ob d.Single,oi d.Limit,oi d.Price,oi d.pG.Num,oi d.pG.Den,oi d.oQ.Num,oi d.oQ.Den,oi d.Cap.Num,oi d.Cap.Den,oi d.eF.Num,oi d.eF.Den,oi d.dH.Num,oi d.dH.Den,oi d.By] 44]) (fun y hm Kn3 aP=>?_) fun t h=>?_
   ·have h:=hm;clear hm;cbv;refine .g h fun i5 h=>?_;cbv;refine .g h fun v6 h=>?_;cbv;refine aG h ?_ ?_<;>intro h
    ·cbv;obtain rfl:=oj h;exact aP _ _ _ rfl (.nz (.aB [0,1,2,3,4,5,6] mx))
    ·cbv;obtain rfl:=oj h;exact aP _ _ _ rfl (.nz (.aB [0,1,2,3,4,5,6] mx))
   obtain⟨at4,rfl⟩:=ez t;cbv;obtain rfl:=oj h;exact bg _ _ _ rfl (.nz (.aB [0,1,2,3,4,5,6] mx))
  ·cbv;obtain rfl:=oj h;obtain rfl:=hr2 _ rfl;exact aC _ _ _ rfl (.nz (.aB [0,1,2,3,4,5,6] mx))
 obtain⟨Qs,rfl⟩:=ez t;cbv;refine .g h (fun ((pF,at8):(List Decision)×Int)=>[.ptr 0 0]++rp 4 .top++[oi at8]++rp 46 .top) (fun (pF,at8)=>[.cells [dq aZ rules,dq dD zones,.hd 1,.hd 6,.hd 3,.hd 4,.hd 5,ob full] 90,rE nodes,.gone,rC attr,rD live,rC made,rF pF]) (fun y hm Kn1 aC=>?_) fun t h=>?_
 ·have h:=hm;clear hm;cbv;refine aG h ?_ ?_<;>intro h
  ·cbv;refine .g (e:=bJ) h (gU aJ (jP _)) fun l9 h=>?_;cbv;refine .g h rfl (fun _=>rfl) (by decide) fun l10 h=>?_;cbv;obtain rfl:=oj h;exact aC _ _ _ rfl (.nz (.aB [0,1,2,3,4,5,7] mx))
  ·cbv;obtain rfl:=oj h;exact aC _ _ _ rfl (.nz (.aB [0,1,2,3,4,5,2] mx))
 obtain⟨pF,at8⟩:=t;cbv;obtain⟨r11,hm,h⟩:=Option.bind_eq_some_iff.1 h;refine .DL [0,1,6,3,4,5] (ls1 hP _ _ _ _ _ _ _ _ _ _ hm) mx fun sv0 dG hq _=>?_;obtain⟨rfl,rfl⟩:=hq;clear hm;cbv;obtain rfl:=oj h;exact hK _ _ [0,1,2,3,4,5,7,8,9,10,11] mx
def du3 : List ah:=gS 3 [.box 28 0]++gS 6 [.mv cn]
def do3 : List ah:=gS 8 [.mv 2,.mv 1,.call 80 [8,9]]
def di3 : List ah:=gS 11 [.mv 2]++gS 6 [.mv 11]
def de3 : List ah:=gS 12 [.mv 2,.mv 1,.aU 3 1 1 oz [(0,13)],.app 3 1 8 oz 12 14]++gS 2 [.mv 15]
def da3 : List ah:=gS 7 [.mv (ci 0)]
def dr3 : List ah:=gS 16 [.mv 7,.aj 0 3,.load 1 false 17,.mv 1,.aQ 4 18 19,.aj 2 20,.load 1 false 21,.len false 22,.bin .lss 16 23]
def dn3 : List ah:=gS 27 [.load 2 true 3,.aj 0 3,.load 1 false 28,.mv 1,.aQ 4 29 30,.aj 2 31,.load 1 false 32,.mv 7,.aQ 1 33 34,.load 1 false 35,.mv 2]
def pd2 : List ah:=gS 38 [.call 38 [27,36,37]]++gS 2 [.mv 38]
def dt3 : List ah:=gS 25 [.mv 7,.bin .add 25 (ci 1)]++gS 7 [.mv 26]
def sq3 : DE:=.seq (.seq (.reg dr3) (.cond 24 (.skip) (.exit 0))) (.join (.block 1 (.sfx false false false dn3 pd2)) (.reg dt3))
def dl3 : List ah:=gS 39 [.mv 2]++gS 6 [.mv 39]
def c38 : fJ:=⟨40,.seq (.reg du3) (.seq (.seq (.reg do3) (.cond 10 (.seq (.reg di3) (.ret)) (.skip))) (.seq (.reg de3) (.join (.seq (.reg da3) (.block 0 (.loop sq3))) (.seq (.reg dl3) (.ret))))),[.tmp 6]⟩
theorem ZF : fD Tryz.prog 38=some c38.er:=by kernel_rfl
set_option maxHeartbeats 8000000 in
theorem jt2 {P:Program}(hP:P=Tryz.prog)(nodes:(List Node))(leaves:(List Decision))(rec:(Int->(List Int)->Option ((List Int))))(at0:Int)(order:(List Int))(hrec:∀ at0 order r,rec at0 order=some r->dX P 38 [rC order] [.agg [dq bC nodes,dq bJ leaves],oi at0,.hd 0] (fun sv own'=>sv=.hd 1/\own'=[.gone,rC r]))(r:(List Int))(h:RF nodes leaves rec at0 order=some r):dX P 38 [rC order] [.agg [dq bC nodes,dq bJ leaves],oi at0,.hd 0] (fun sv own'=>sv=.hd 1/\own'=[.gone,rC r]):=by
 refine .OY 1 rfl (Nat.le_of_ble_eq_true rfl) (hP▸ZF) fun K hK=>?_;unfold RF at h;cbv;refine .gl [] h (fun v hv=>WJ hP _ _ v hv) aJ rfl fun v1 h=>?_;cbv;refine aG h ?_ ?_<;>intro h
 ·cbv;obtain rfl:=oj h;exact hK _ _ [0,0] mx
 ·cbv;refine .g (e:=aH) h (gU aJ (jP _)) fun l2 h=>?_;cbv;refine .g h rfl (fun _=>rfl) (by decide) fun Eo h=>?_;cbv;refine .g h (fun (uo:(List Int))=>[.top,.top,.hd 1]++rp 37 .top) (fun uo=>[.gone,rC uo]) (fun y hm Kn1 aC=>?_) fun t h=>?_
  ·have h:=hm;clear hm;cbv;refine .g h (fun ((qo,i6):(List Int)×Int)=>[.top,oi at0,.hd 1,.ptr 2 0]++rp 3 .top++[oi i6]++rp 32 .top) (fun (qo,i6)=>[.gone,rC qo,.cells [dq bC nodes,dq bJ leaves] 28]) (.nz (.aB [0,3,1] ?_)) fun s x h hr2 Kn2 bg=>?_
   ·exact mx
   unfold OW at h;obtain⟨qo,i6⟩:=s;cbv;refine .g h (fun _=>rfl) fun x7 h=>?_;cbv;refine aG h ?_ ?_<;>intro h
   ·cbv;refine .g h (fun (um:(List Int))=>[.top,oi at0,.hd 1,.ptr 2 0]++rp 3 .top++[oi i6]++rp 32 .top) (fun um=>[.gone,rC um,.cells [dq bC nodes,dq bJ leaves] 28]) (fun y hm Kn3 aP=>?_) fun t h=>?_
    ·have h:=hm;clear hm;cbv;refine .g h (fun _=>rfl) fun x9 h=>?_;cbv;refine .g h (fun _=>rfl) fun x10 h=>?_;cbv;obtain⟨r11,hm,h⟩:=Option.bind_eq_some_iff.1 h;refine .xg [1] (hrec _ _ _ hm) mx fun sv0 dG hq _=>?_;obtain⟨rfl,rfl⟩:=hq;clear hm;cbv;obtain rfl:=oj h;exact aP _ _ _ rfl (.nz (.aB [0,3,2] mx))
    obtain⟨um,rfl⟩:=ez t;cbv;obtain rfl:=oj h;exact bg _ _ _ rfl (.nz (.aB [0,1,2] mx))
   ·cbv;obtain rfl:=oj h;obtain rfl:=hr2 _ rfl;exact aC _ _ _ rfl (.nz (.aB [0,1] mx))
  obtain⟨uo,rfl⟩:=ez t;cbv;obtain rfl:=oj h;exact hK _ _ [0,1] mx
theorem ZU {P:Program}(hP:P=Tryz.prog)(nodes:(List Node))(leaves:(List Decision)):∀ (n:Nat)(at0:Int)(order:(List Int))(r:(List Int)),Ia nodes leaves n at0 order=some r->dX P 38 [rC order] [.agg [dq bC nodes,dq bJ leaves],oi at0,.hd 0] (fun sv own'=>sv=.hd 1/\own'=[.gone,rC r])
 |0,_,_,_,h=>by cases h
 |n+1,at0,order,r,h=>jt2 hP nodes leaves _ at0 order (ZU hP nodes leaves n) r h
noncomputable def KG (n:Node)(Bg:Int)(xu:Int):Int->Option ((Int) ⊕ ((Unit) ⊕ (Bool)))
 |i6 =>
 bif (io.lt i6 (io.len (W aH n.aI))) then (
 Option.bind (
 Option.bind (bU n.aI i6) fun x8 =>
 bif (io.le x8 Bg) then (
 some true
 ) else (
 Option.bind (bU n.aI i6) fun x9 =>
 bif (io.lt xu x9) then (
 some true
 ) else (
 bif (io.lt 0 i6) then (
 Option.bind (bU n.aI i6) fun x10 =>
 Option.bind (bU n.aI (io.ar .sub .i64 i6 1)) fun x11 =>
 some (io.le x10 x11)
 ) else (
 some false
 )
 )
 )
 ) fun v7 =>
 bif v7 then (
 some (.inr (.inr false))
 ) else (
 some (.inl (io.ar .add .i64 i6 1))
 )
 ) else (
 some (.inr (.inl ()))
 )
noncomputable def Zn (n:Node)(t_:Table):Int->Option ((Int) ⊕ ((Unit) ⊕ (Bool)))
 |i12 =>
 bif (io.lt i12 (io.len (W aH n.Kids))) then (
 Option.bind (bU n.Kids i12) fun mF =>
 Option.bind (
 bif (io.lt mF 0) then (
 some true
 ) else (
 bif (io.le (io.len (W bC t_.Nodes)) mF) then (
 some true
 ) else (
 bif (io.lt 0 i12) then (
 Option.bind (bU n.Kids (io.ar .sub .i64 i12 1)) fun x15 =>
 bif (io.eq x15 mF) then (
 some true
 ) else (
 Option.bind (bU t_.Nodes mF) fun x16 =>
 bif (io.lt 0 (io.len (W aH x16.Kids))) then (
 Option.bind (bU t_.Nodes mF) fun x17 =>
 some (io.le x17.Attr n.Attr)
 ) else (
 some false
 )
 )
 ) else (
 Option.bind (bU t_.Nodes mF) fun x18 =>
 bif (io.lt 0 (io.len (W aH x18.Kids))) then (
 Option.bind (bU t_.Nodes mF) fun x19 =>
 some (io.le x19.Attr n.Attr)
 ) else (
 some false
 )
 )
 )
 )
 ) fun v14 =>
 bif v14 then (
 some (.inr (.inr false))
 ) else (
 some (.inl (io.ar .add .i64 i12 1))
 )
 ) else (
 some (.inr (.inl ()))
 )
noncomputable def QE (t_:Table)(n:Node):Option (Bool) :=
 bif (io.eq (io.len (W aH n.Kids)) 0) then (
 bif (io.eq (io.len (W aH n.aI)) 0) then (
 bif (io.eq n.Attr 0) then (
 bif (io.le 0 n.Leaf) then (
 some (io.lt n.Leaf (io.len (W bJ t_.Leaves)))
 ) else (
 some false
 )
 ) else (
 some false
 )
 ) else (
 some false
 )
 ) else (
 Option.bind (
 bif (io.lt n.Attr 0) then (
 some true
 ) else (
 bif (io.le 10 n.Attr) then (
 some true
 ) else (
 bif (io.not (io.eq n.Leaf 0)) then (
 some true
 ) else (
 bif (io.not (io.eq (io.len (W aH n.Kids)) (io.ar .add .i64 (io.len (W aH n.aI)) 1))) then (
 some true
 ) else (
 some (io.eq (io.len (W aH n.aI)) 0)
 )
 )
 )
 )
 ) fun v1 =>
 bif v1 then (
 some false
 ) else (
 Option.bind (
 Option.bind (Bo) fun v4 =>
 Option.bind (oh 10 n.Attr) fun i5 =>
 some ((v4.get i5).Lo,(v4.get i5).Hi)
 ) fun (Bg,xu) =>
 gu (
 dw (KG n Bg xu) 0
 ) fun _ =>
 gu (
 dw (Zn n t_) 0
 ) fun _ =>
 some true
 )
 )
noncomputable def PY (i4:Int)(t_:Table):Int->Option ((Int) ⊕ ((Unit) ⊕ ((Int) ⊕ ((Int×Int) ⊕ ((Int) ⊕ (Bool))))))
 |k8 =>
 bif (io.lt k8 i4) then (
 Option.bind (bU t_.Nodes i4) fun x9 =>
 Option.bind (bU t_.Nodes k8) fun x10 =>
 Option.bind (L9 x9 x10) fun v11 =>
 bif v11 then (
 some (.inr (.inr (.inr (.inr (.inr false)))))
 ) else (
 some (.inl (io.ar .add .i64 k8 1))
 )
 ) else (
 some (.inr (.inl ()))
 )
noncomputable def PS (t_:Table):(Int×Int)->Option ((Int×Int) ⊕ ((Int) ⊕ (Bool)))
 |(je,i4) =>
 bif (io.lt i4 (io.len (W bC t_.Nodes))) then (
 gu (
 Option.bind (bU t_.Nodes i4) fun x6 =>
 Option.bind (QE t_ x6) fun v7 =>
 bif (io.not v7) then (
 some (.inr (.inr (.inr false)))
 ) else (
 gu (
 dw (PY i4 t_) 0
 ) fun _ =>
 Option.bind (bU t_.Nodes i4) fun x12 =>
 bif (io.eq (io.len (W aH x12.Kids)) 0) then (
 Option.bind (bU t_.Nodes i4) fun mF =>
 bif (io.not (io.eq mF.Leaf je)) then (
 some (.inr (.inr (.inr false)))
 ) else (
 some (.inl (io.ar .add .i64 je 1))
 )
 ) else (
 some (.inl je)
 )
 )
 ) fun oN =>
 some (.inl (oN,(io.ar .add .i64 i4 1)))
 ) else (
 some (.inr (.inl je))
 )
noncomputable def PZ (DU:Int)(t_:Table):Int->Option ((Int) ⊕ ((Unit) ⊕ ((Int) ⊕ ((Unit) ⊕ (Bool)))))
 |k15 =>
 bif (io.lt k15 DU) then (
 Option.bind (bU t_.Leaves DU) fun x16 =>
 Option.bind (bU t_.Leaves k15) fun x17 =>
 bif (Ez x16 x17) then (
 some (.inr (.inr (.inr (.inr false))))
 ) else (
 some (.inl (io.ar .add .i64 k15 1))
 )
 ) else (
 some (.inr (.inl ()))
 )
noncomputable def PN (t_:Table):Int->Option ((Int) ⊕ ((Unit) ⊕ (Bool)))
 |DU =>
 bif (io.lt DU (io.len (W bJ t_.Leaves))) then (
 gu (
 dw (PZ DU t_) 0
 ) fun _ =>
 some (.inl (io.ar .add .i64 DU 1))
 ) else (
 some (.inr (.inl ()))
 )
noncomputable def PK (t_:Table):((List Int)×Int)->Option (((List Int)×Int) ⊕ ((List Int)))
 |(mO,i24) =>
 Option.bind (bU t_.Nodes 0) fun x25 =>
 bif (io.lt i24 (io.len (W aH x25.Kids))) then (
 Option.bind (
 Option.bind (bU t_.Nodes 0) fun x27 =>
 Option.bind (bU x27.Kids i24) fun x28 =>
 Option.bind (Ia t_.Nodes t_.Leaves 61 x28 mO) fun r29 =>
 some r29
 ) fun oH =>
 some (.inl (oH,(io.ar .add .i64 i24 1)))
 ) else (
 some (.inr mO)
 )
noncomputable def PU (gJ:(List Int)):Int->Option ((Int) ⊕ ((Unit) ⊕ (Bool)))
 |i30 =>
 bif (io.lt i30 (io.len (W aH gJ))) then (
 Option.bind (oL gJ i30) fun i31 =>
 Option.bind (gJ[i31]?) fun v32 =>
 bif (io.not (io.eq v32 i30)) then (
 some (.inr (.inr false))
 ) else (
 some (.inl (io.ar .add .i64 i30 1))
 )
 ) else (
 some (.inr (.inl ()))
 )
noncomputable def Cm (t_:Table):Option (Bool) :=
 Option.bind (
 bif (io.lt (io.len (W bC t_.Nodes)) 1) then (
 some true
 ) else (
 some (io.lt 20000 (io.len (W bC t_.Nodes)))
 )
 ) fun v1 =>
 bif v1 then (
 some false
 ) else (
 gu (
 dw (PS t_) (0,0)
 ) fun gK =>
 gu (
 dw (PN t_) 0
 ) fun _ =>
 Option.bind (
 Option.bind (Gx [] 0) fun v19 =>
 bif v19 then (
 some []
 ) else (
 Option.bind (some [0]) fun SH =>
 Option.bind (appG ([]:List Int) SH) fun JL =>
 Option.bind (
 dw (PK t_) (JL,0)
 ) fun oJ =>
 some oJ
 )
 ) fun gJ =>
 gu (
 dw (PU gJ) 0
 ) fun _ =>
 bif (io.eq (io.len (W aH gJ)) (io.len (W bC t_.Nodes))) then (
 some (io.eq gK (io.len (W bJ t_.Leaves)))
 ) else (
 some false
 )
 )
def fn3 : List ah:=gS 2 [.box 28 0,.box 50 1,.mv (cB false)]
def fs3 : List ah:=gS 9 [.aj 2 3,.load 1 false 9,.len false 10,.bin .eql 11 (ci 0)]
def ft3 : List ah:=gS 13 [.aj 1 3,.load 1 false 13,.len false 14,.bin .eql 15 (ci 0),.mv 16]++gQ 17 true 18 [.aj 0 3,.load 1 false 18,.bin .eql 19 (ci 0)]++gS 21 [.pick 17 20 (cB false),.mv 21]++gQ 22 true 23 [.aj 3 3,.load 1 false 23,.bin .geq 24 (ci 0)]++gS 26 [.pick 22 25 (cB false),.mv 26]++gQ 27 true 28 [.aj 3 3,.load 1 false 28,.aj 1 2,.load 1 false 30,.len false 31,.bin .lss 29 32]++gS 34 [.pick 27 33 (cB false)]++gS 4 [.mv 34]
def fl3 : List ah:=gS 35 [.aj 0 3,.load 1 false 35,.bin .lss 36 (ci 0),.mv 37]++gQ 38 false 39 [.aj 0 3,.load 1 false 39,.bin .geq 40 (ci 10)]++gS 42 [.pick 38 (cB true) 41,.mv 42]++gQ 43 false 44 [.aj 3 3,.load 1 false 44,.bin .neq 45 (ci 0)]++gS 47 [.pick 43 (cB true) 46,.mv 47]++gQ 48 false 49 [.aj 2 3,.load 1 false 49,.len false 50,.aj 1 3,.load 1 false 52,.len false 53,.bin .add 54 (ci 1),.bin .neq 51 55]++gS 57 [.pick 48 (cB true) 56,.mv 57]++gQ 58 false 59 [.aj 1 3,.load 1 false 59,.len false 60,.bin .eql 61 (ci 0)]++gS 63 [.pick 58 (cB true) 62]
def fd3 : List ah:=gS 4 [.mv (cB false)]
def fc3 : List ah:=gS 64 [.call 20 [],.aj 0 3,.load 1 false 65,.lD 10 2 true 64 66]++gS 5 [.alloc 52 (.agg #[oz,oz])]++[⟨none,.store 2 5 67,none⟩]
def fm3 : List ah:=gS 6 [.mv (ci 0)]
def ff3 : List ah:=gS 68 [.mv 6,.aj 1 3,.load 1 false 69,.len false 70,.bin .lss 68 71]
def fh3 : List ah:=gS 75 [.aj 1 3,.load 1 false 75,.mv 6,.aQ 1 76 77,.load 1 false 78,.aj 0 5,.load 1 false 80,.bin .leq 79 81,.mv 82]++gQ 83 false 84 [.aj 1 3,.load 1 false 84,.mv 6,.aQ 1 85 86,.load 1 false 87,.aj 1 5,.load 1 false 89,.bin .gtr 88 90]++gS 92 [.pick 83 (cB true) 91,.mv 92]++gQ 93 false 94 [.mv 6,.bin .gtr 94 (ci 0),.mv 95]++gQ 96 true 97 [.aj 1 3,.load 1 false 97,.mv 6,.aQ 1 98 99,.load 1 false 100,.aj 1 3,.load 1 false 102,.mv 6,.bin .sub 104 (ci 1),.aQ 1 103 105,.load 1 false 106,.bin .leq 101 107]++gQ 93 false 109 [.pick 96 108 (cB false)]++gS 110 [.pick 93 (cB true) 109]
def fp3 : List ah:=gS 4 [.mv (cB false)]
def ar2 : List ah:=gS 73 [.mv 6,.bin .add 73 (ci 1)]++gS 6 [.mv 74]
def ae2 : DE:=.seq (.seq (.reg ff3) (.cond 72 (.skip) (.exit 0))) (.seq (.block 1 (.join (.par true true true 33 fh3) (.cond 110 (.seq (.reg fp3) (.ret)) (.skip)))) (.reg ar2))
def an2 : List ah:=gS 7 [.mv (ci 0)]
def as2 : List ah:=gS 111 [.mv 7,.aj 2 3,.load 1 false 112,.len false 113,.bin .lss 111 114]
def al2 : List ah:=gS 118 [.aj 2 3,.load 1 false 118,.mv 7,.aQ 1 119 120,.load 1 false 121]++gS 8 [.mv 122]
def ad2 : List ah:=gS 123 [.mv 8,.bin .lss 123 (ci 0),.mv 124]++gQ 125 false 126 [.mv 8,.aj 0 2,.load 1 false 127,.len false 128,.bin .geq 126 129]++gS 131 [.pick 125 (cB true) 130,.mv 131]++gQ 132 false 133 [.mv 7,.bin .gtr 133 (ci 0),.mv 134]++gQ 135 true 136 [.aj 2 3,.load 1 false 136,.mv 7,.bin .sub 138 (ci 1),.aQ 1 137 139,.load 1 false 140,.mv 8,.bin .eql 141 142]++gQ 132 false 144 [.pick 135 143 (cB false)]++gS 145 [.pick 132 (cB true) 144,.mv 145]++gQ 146 false 147 [.aj 0 2,.load 1 false 147,.mv 8,.aQ 4 148 149,.aj 2 150,.load 1 false 151,.len false 152,.bin .gtr 153 (ci 0),.mv 154]++gQ 155 true 156 [.aj 0 2,.load 1 false 156,.mv 8,.aQ 4 157 158,.aj 0 159,.load 1 false 160,.aj 0 3,.load 1 false 162,.bin .leq 161 163]++gQ 146 false 165 [.pick 155 164 (cB false)]++gS 166 [.pick 146 (cB true) 165]
def ac2 : List ah:=gS 4 [.mv (cB false)]
def am2 : List ah:=gS 116 [.mv 7,.bin .add 116 (ci 1)]++gS 7 [.mv 117]
def aa2 : DE:=.seq (.seq (.reg as2) (.cond 115 (.skip) (.exit 2))) (.seq (.block 3 (.seq (.reg al2) (.join (.par true true true 41 ad2) (.cond 166 (.seq (.reg ac2) (.ret)) (.skip))))) (.reg am2))
def af2 : List ah:=gS 4 [.mv (cB true)]
def c42 : fJ:=⟨167,.seq (.reg fn3) (.seq (.seq (.reg fs3) (.cond 12 (.seq (.reg ft3) (.ret)) (.skip))) (.seq (.join (.reg fl3) (.cond 63 (.seq (.reg fd3) (.ret)) (.skip))) (.join (.par false false false 5 fc3) (.join (.seq (.reg fm3) (.block 0 (.loop ae2))) (.join (.seq (.reg an2) (.block 2 (.loop aa2))) (.seq (.reg af2) (.ret))))))),[.tmp 4]⟩
theorem ai2 : fD Tryz.prog 42=some c42.er:=by kernel_rfl
set_option maxHeartbeats 4000000 in
theorem ei0 {P:Program}(hP:P=Tryz.prog)(t_:Table)(n:Node)(r:Bool)(h:QE t_ n=some r):Fn1 P 42 [BR t_,La n] (vB r):=by
 refine .mJ (hP▸ai2) fun K hK=>?_;unfold QE at h;cbv;refine aG h ?_ ?_<;>intro h
 ·cbv;refine aG h ?_ ?_<;>intro h
  ·cbv;refine aG h ?_ ?_<;>intro h
   ·cbv;refine aG h ?_ ?_<;>intro h
    ·cbv;obtain rfl:=oj h;exact hK _ _ aJ
    ·cbv;obtain rfl:=oj h;exact hK _ _ aJ
   ·cbv;obtain rfl:=oj h;exact hK _ _ aJ
  ·cbv;obtain rfl:=oj h;exact hK _ _ aJ
 ·cbv;refine .g h (fun (v1:Bool)=>[.top,.top,.ptr 0 0,.ptr 1 0]++rp 59 .top++[ob v1]++rp 103 .top) (fun v1=>[.cells [dq bC t_.Nodes,dq bJ t_.Leaves] 28,.cells [oi n.Attr,dq aH n.aI,dq aH n.Kids,oi n.Leaf] 50]) (fun y hm Kn1 aC=>?_) fun t h=>?_
  ·have h:=hm;clear hm;cbv;refine aG h ?_ ?_<;>intro h
   ·cbv;obtain rfl:=oj h;exact aC _ _ _ rfl (.nz (.aB [0,1] mx))
   ·cbv;refine aG h ?_ ?_<;>intro h
    ·cbv;obtain rfl:=oj h;exact aC _ _ _ rfl (.nz (.aB [0,1] mx))
    ·cbv;refine aG h ?_ ?_<;>intro h
     ·cbv;obtain rfl:=oj h;exact aC _ _ _ rfl (.nz (.aB [0,1] mx))
     ·cbv;refine aG h ?_ ?_<;>intro h
      ·cbv;obtain rfl:=oj h;exact aC _ _ _ rfl (.nz (.aB [0,1] mx))
      ·cbv;obtain rfl:=oj h;exact aC _ _ _ rfl (.nz (.aB [0,1] mx))
  obtain⟨v1,rfl⟩:=ez t;cbv;refine aG h ?_ ?_<;>intro h
  ·cbv;obtain rfl:=oj h;exact hK _ _ aJ
  ·cbv;refine .g h (fun ((Bg,xu):Int×Int)=>[.top,.top,.ptr 0 0,.ptr 1 0,.top,.ptr 2 0]++rp 161 .top) (fun (Bg,xu)=>[.cells [dq bC t_.Nodes,dq bJ t_.Leaves] 28,.cells [oi n.Attr,dq aH n.aI,dq aH n.Kids,oi n.Leaf] 50,.cells [oi Bg,oi xu] 52]) (fun y hm Kn1 aC=>?_) fun t h=>?_
   ·have h:=hm;clear hm;cbv;refine .g h (fun v hv=>Jb hP v hv) aJ rfl (fun _=>rfl) fun v4 h=>?_;cbv
    refine .c10 h ?_ ?_ ?_ ?_ ?_ ?_ ?_ ?_ ?_ ?_<;>(
     intro Ur h;cbv;obtain rfl:=oj h;exact aC _ _ _ rfl (.nz (.aB [0,1,2] mx))
     )
   obtain⟨Bg,xu⟩:=t;cbv;refine .ga h (fun (_:Unit)=>[.top,.top,.ptr 0 0,.ptr 1 0]++rp 163 .top) (fun _=>[.cells [dq bC t_.Nodes,dq bJ t_.Leaves] 28,.cells [oi n.Attr,dq aH n.aI,dq aH n.Kids,oi n.Leaf] 50]) (fun y hm hr1 Kn1 aC=>?_) fun t h=>?_
   ·have h:=hm;clear hm;cbv;refine .g h (fun (i6:Int)=>[.top,.top,.ptr 0 0,.ptr 1 0,.top,.ptr 2 0,oi i6]++rp 160 .top) (fun i6=>[.cells [dq bC t_.Nodes,dq bJ t_.Leaves] 28,.cells [oi n.Attr,dq aH n.aI,dq aH n.Kids,oi n.Leaf] 50,.cells [oi Bg,oi xu] 52]) (.nz (.aB [0,1,2] ?_)) fun s x h hr2 Kn2 bg=>?_
    ·exact mx
    unfold KG at h;obtain⟨i6,rfl⟩:=ez s;cbv;refine aG h ?_ ?_<;>intro h
    ·cbv;refine .g h (fun (v7:Bool)=>[.top,.top,.ptr 0 0,.ptr 1 0,.top,.ptr 2 0,oi i6]++rp 103 .top++[ob v7]++rp 56 .top) (fun v7=>[.cells [dq bC t_.Nodes,dq bJ t_.Leaves] 28,.cells [oi n.Attr,dq aH n.aI,dq aH n.Kids,oi n.Leaf] 50,.cells [oi Bg,oi xu] 52]) (fun y hm Kn3 aP=>?_) fun t h=>?_
     ·have h:=hm;clear hm;cbv;refine .g h (fun _=>rfl) fun x8 h=>?_;cbv;refine aG h ?_ ?_<;>intro h
      ·cbv;obtain rfl:=oj h;exact aP _ _ _ rfl (.nz (.aB [0,1,2] mx))
      ·cbv;refine .g h (fun _=>rfl) fun x9 h=>?_;cbv;refine aG h ?_ ?_<;>intro h
       ·cbv;obtain rfl:=oj h;exact aP _ _ _ rfl (.nz (.aB [0,1,2] mx))
       ·cbv;refine aG h ?_ ?_<;>intro h
        ·cbv;refine .g h (fun _=>rfl) fun x10 h=>?_;cbv;refine .g h (fun _=>rfl) fun x11 h=>?_;cbv;obtain rfl:=oj h;exact aP _ _ _ rfl (.nz (.aB [0,1,2] mx))
        ·cbv;obtain rfl:=oj h;exact aP _ _ _ rfl (.nz (.aB [0,1,2] mx))
     obtain⟨v7,rfl⟩:=ez t;cbv;refine aG h ?_ ?_<;>intro h
     ·cbv;obtain rfl:=oj h;obtain rfl:=hr2 _ rfl;obtain rfl:=hr1 _ rfl;exact hK _ _ aJ
     ·cbv;obtain rfl:=oj h;exact bg _ _ _ rfl (.nz (.aB [0,1,2] mx))
    ·cbv;obtain rfl:=oj h;obtain rfl:=hr2 _ rfl;exact aC _ _ _ rfl (.nz (.aB [0,1] mx))
   cbv;refine .ga h (fun (_:Unit)=>rp 167 .top) (fun _=>[]) (fun y hm hr1 Kn1 aC=>?_) fun t h=>?_
   ·have h:=hm;clear hm;cbv;refine .g h (fun (i12:Int)=>[.top,.top,.ptr 0 0,.ptr 1 0]++rp 3 .top++[oi i12]++rp 159 .top) (fun i12=>[.cells [dq bC t_.Nodes,dq bJ t_.Leaves] 28,.cells [oi n.Attr,dq aH n.aI,dq aH n.Kids,oi n.Leaf] 50]) (.nz (.aB [0,1] ?_)) fun s x h hr2 Kn2 bg=>?_
    ·exact mx
    unfold Zn at h;obtain⟨i12,rfl⟩:=ez s;cbv;refine aG h ?_ ?_<;>intro h
    ·cbv;refine .g h (fun _=>rfl) fun mF h=>?_;cbv;refine .g h (fun (v14:Bool)=>[.top,.top,.ptr 0 0,.ptr 1 0]++rp 3 .top++[oi i12]++rp 158 .top++[ob v14]) (fun v14=>[.cells [dq bC t_.Nodes,dq bJ t_.Leaves] 28,.cells [oi n.Attr,dq aH n.aI,dq aH n.Kids,oi n.Leaf] 50]) (fun y hm Kn3 aP=>?_) fun t h=>?_
     ·have h:=hm;clear hm;cbv;refine aG h ?_ ?_<;>intro h
      ·cbv;obtain rfl:=oj h;exact aP _ _ _ rfl (.nz (.aB [0,1] mx))
      ·cbv;refine aG h ?_ ?_<;>intro h
       ·cbv;obtain rfl:=oj h;exact aP _ _ _ rfl (.nz (.aB [0,1] mx))
       ·cbv;refine aG h ?_ ?_<;>intro h
        ·cbv;refine .g h (fun _=>rfl) fun x15 h=>?_;cbv;refine aG h ?_ ?_<;>intro h
         ·cbv;obtain rfl:=oj h;exact aP _ _ _ rfl (.nz (.aB [0,1] mx))
         ·cbv;refine .g h (fun _=>rfl) fun x16 h=>?_;cbv;refine aG h ?_ ?_<;>intro h
          ·cbv;refine .g h (fun _=>rfl) fun x17 h=>?_;cbv;obtain rfl:=oj h;exact aP _ _ _ rfl (.nz (.aB [0,1] mx))
          ·cbv;obtain rfl:=oj h;exact aP _ _ _ rfl (.nz (.aB [0,1] mx))
        ·cbv;refine .g h (fun _=>rfl) fun x18 h=>?_;cbv;refine aG h ?_ ?_<;>intro h
         ·cbv;refine .g h (fun _=>rfl) fun x19 h=>?_;cbv;obtain rfl:=oj h;exact aP _ _ _ rfl (.nz (.aB [0,1] mx))
         ·cbv;obtain rfl:=oj h;exact aP _ _ _ rfl (.nz (.aB [0,1] mx))
     obtain⟨v14,rfl⟩:=ez t;cbv;refine aG h ?_ ?_<;>intro h
     ·cbv;obtain rfl:=oj h;obtain rfl:=hr2 _ rfl;obtain rfl:=hr1 _ rfl;exact hK _ _ aJ
     ·cbv;obtain rfl:=oj h;exact bg _ _ _ rfl (.nz (.aB [0,1] mx))
    ·cbv;obtain rfl:=oj h;obtain rfl:=hr2 _ rfl;exact aC _ _ _ rfl (.nz (.aB [] mx))
   cbv;obtain rfl:=oj h;exact hK _ _ aJ
def lh3 : List ah:=gS 1 [.box 28 0,.mv (cB false)]
def lp3 : List ah:=gS 10 [.aj 0 1,.load 1 false 10,.len false 11,.bin .lss 12 (ci 1),.mv 13]++gQ 14 false 15 [.aj 0 1,.load 1 false 15,.len false 16,.bin .gtr 17 (ci 20000)]++gS 19 [.pick 14 (cB true) 18]
def lg3 : List ah:=gS 2 [.mv (cB false)]
def lb3 : List ah:=gS 3 [.mv (ci 0)]
def ly3 : List ah:=gS 4 [.mv (ci 0)]
def lw3 : List ah:=gS 20 [.mv 4,.aj 0 1,.load 1 false 21,.len false 22,.bin .lss 20 23]
def lv3 : List ah:=gS 27 [.load 2 true 1,.aj 0 1,.load 1 false 28,.mv 4,.aQ 4 29 30,.load 4 true 31,.call 42 [27,32],.un .not 33]
def lk3 : List ah:=gS 2 [.mv (cB false)]
def lx3 : List ah:=gS 5 [.mv (ci 0)]
def lj3 : List ah:=gS 35 [.mv 5,.mv 4,.bin .lss 35 36]
def rp2 : List ah:=gS 40 [.aj 0 1,.load 1 false 40,.mv 4,.aQ 4 41 42,.load 4 true 43,.aj 0 1,.load 1 false 45,.mv 5,.aQ 4 46 47,.load 4 true 48,.call 29 [44,49]]
def rg2 : List ah:=gS 2 [.mv (cB false)]
def rb2 : List ah:=gS 38 [.mv 5,.bin .add 38 (ci 1)]++gS 5 [.mv 39]
def rd2 : DE:=.seq (.seq (.reg lj3) (.cond 37 (.skip) (.exit 2))) (.seq (.block 3 (.seq (.par false true false 10 rp2) (.cond 50 (.seq (.reg rg2) (.ret)) (.skip)))) (.reg rb2))
def ry2 : List ah:=gS 51 [.aj 0 1,.load 1 false 51,.mv 4,.aQ 4 52 53,.aj 2 54,.load 1 false 55,.len false 56,.bin .eql 57 (ci 0)]
def rw2 : List ah:=gS 59 [.aj 0 1,.load 1 false 59,.mv 4,.aQ 4 60 61,.aj 3 62,.load 1 false 63,.mv 3,.bin .neq 64 65]
def rv2 : List ah:=gS 2 [.mv (cB false)]
def rk2 : List ah:=gS 67 [.mv 3,.bin .add 67 (ci 1)]++gS 3 [.mv 68]
def rx2 : List ah:=gS 25 [.mv 4,.bin .add 25 (ci 1)]++gS 4 [.mv 26]
def rc2 : DE:=.seq (.seq (.reg lw3) (.cond 24 (.skip) (.exit 0))) (.join (.block 1 (.seq (.seq (.par false false false 6 lv3) (.cond 34 (.seq (.reg lk3) (.ret)) (.skip))) (.join (.seq (.reg lx3) (.block 2 (.loop rd2))) (.seq (.reg ry2) (.cond 58 (.seq (.seq (.reg rw2) (.cond 66 (.seq (.reg rv2) (.ret)) (.skip))) (.reg rk2)) (.skip)))))) (.reg rx2))
def rj2 : List ah:=gS 6 [.mv (ci 0)]
def rz2 : List ah:=gS 69 [.mv 6,.aj 1 1,.load 1 false 70,.len false 71,.bin .lss 69 72]
def rq2 : List ah:=gS 7 [.mv (ci 0)]
def bu2 : List ah:=gS 76 [.mv 7,.mv 6,.bin .lss 76 77]
def bo2 : List ah:=gS 81 [.aj 1 1,.load 1 false 81,.mv 6,.aQ 16 82 83,.load 16 true 84,.aj 1 1,.load 1 false 86,.mv 7,.aQ 16 87 88,.load 16 true 89,.beq false [.bool,.bool,.bool,.int,.int,.int,.int,.int,.int,.int,.int,.int,.int,.int,.int,.int] 85 90]
def bi2 : List ah:=gS 2 [.mv (cB false)]
def ba2 : List ah:=gS 79 [.mv 7,.bin .add 79 (ci 1)]++gS 7 [.mv 80]
def rm2 : DE:=.seq (.seq (.reg bu2) (.cond 78 (.skip) (.exit 6))) (.seq (.block 7 (.seq (.par true true true 10 bo2) (.cond 91 (.seq (.reg bi2) (.ret)) (.skip)))) (.reg ba2))
def br2 : List ah:=gS 74 [.mv 6,.bin .add 74 (ci 1)]++gS 6 [.mv 75]
def rf2 : DE:=.seq (.seq (.reg rz2) (.cond 73 (.skip) (.exit 4))) (.join (.block 5 (.seq (.reg rq2) (.block 6 (.loop rm2)))) (.reg br2))
def bn2 : List ah:=gS 92 [.load 2 true 1,.call 38 [92,(ci 0),cn]]++gS 8 [.mv 93]
def bs2 : List ah:=gS 9 [.mv (ci 0)]
def bt2 : List ah:=gS 94 [.mv 9,.mv 8,.len false 95,.bin .lss 94 96]
def bl2 : List ah:=gS 100 [.mv 8,.mv 9,.aQ 1 100 101,.load 1 false 102,.mv 9,.bin .neq 103 104]
def bd2 : List ah:=gS 2 [.mv (cB false)]
def bm2 : List ah:=gS 98 [.mv 9,.bin .add 98 (ci 1)]++gS 9 [.mv 99]
def rh2 : DE:=.seq (.seq (.reg bt2) (.cond 97 (.skip) (.exit 8))) (.seq (.block 9 (.seq (.reg bl2) (.cond 105 (.seq (.reg bd2) (.ret)) (.skip)))) (.reg bm2))
def bf2 : List ah:=gS 106 [.mv 8,.len false 106,.aj 0 1,.load 1 false 108,.len false 109,.bin .eql 107 110,.mv 111]++gQ 112 true 113 [.mv 3,.aj 1 1,.load 1 false 114,.len false 115,.bin .eql 113 116]++gS 118 [.pick 112 117 (cB false)]++gS 2 [.mv 118]
def c16 : fJ:=⟨119,.seq (.reg lh3) (.seq (.join (.reg lp3) (.cond 19 (.seq (.reg lg3) (.ret)) (.skip))) (.seq (.reg lb3) (.join (.seq (.reg ly3) (.block 0 (.loop rc2))) (.join (.seq (.reg rj2) (.block 4 (.loop rf2))) (.join (.reg bn2) (.join (.seq (.reg bs2) (.block 8 (.loop rh2))) (.seq (.reg bf2) (.ret)))))))),[.tmp 2]⟩
theorem rl2 : fD Tryz.prog 16=some c16.er:=by kernel_rfl
set_option maxHeartbeats 4000000 in
theorem qf1 {P:Program}(hP:P=Tryz.prog)(t_:Table)(r:Bool)(h:Cm t_=some r):Fn1 P 16 [BR t_] (vB r):=by
 refine .mJ (hP▸rl2) fun K hK=>?_;unfold Cm at h;cbv;refine .g h (fun (v1:Bool)=>[.top,.ptr 0 0]++rp 17 .top++[ob v1]++rp 99 .top) (fun v1=>[.cells [dq bC t_.Nodes,dq bJ t_.Leaves] 28]) (fun y hm Kn1 aC=>?_) fun t h=>?_
 ·have h:=hm;clear hm;cbv;refine aG h ?_ ?_<;>intro h
  ·cbv;obtain rfl:=oj h;exact aC _ _ _ rfl (.nz (.aB [0] mx))
  ·cbv;obtain rfl:=oj h;exact aC _ _ _ rfl (.nz (.aB [0] mx))
 obtain⟨v1,rfl⟩:=ez t;cbv;refine aG h ?_ ?_<;>intro h
 ·cbv;obtain rfl:=oj h;exact hK _ _ aJ
 ·cbv;refine .ga h (fun (gK:Int)=>[.top,.ptr 0 0,.top,oi gK]++rp 115 .top) (fun gK=>[.cells [dq bC t_.Nodes,dq bJ t_.Leaves] 28]) (fun y hm hr1 Kn1 aC=>?_) fun t h=>?_
  ·have h:=hm;clear hm;cbv;refine .g h (fun ((je,i4):Int×Int)=>[.top,.ptr 0 0,.top,oi je,oi i4]++rp 114 .top) (fun (je,i4)=>[.cells [dq bC t_.Nodes,dq bJ t_.Leaves] 28]) (.nz (.aB [0] ?_)) fun s x h hr2 Kn2 bg=>?_
   ·exact mx
   unfold PS at h;obtain⟨je,i4⟩:=s;cbv;refine aG h ?_ ?_<;>intro h
   ·cbv;refine .ga h (fun (oN:Int)=>[.top,.ptr 0 0,.top,oi oN,oi i4]++rp 114 .top) (fun oN=>[.cells [dq bC t_.Nodes,dq bJ t_.Leaves] 28]) (fun y hm hr3 Kn3 aP=>?_) fun t h=>?_
    ·have h:=hm;clear hm;cbv;refine .g h (fun _=>rfl) fun x6 h=>?_;cbv;refine .g h (fun v hv=>ei0 hP _ _ v hv) aJ rfl (fun _=>rfl) fun v7 h=>?_;cbv;refine aG h ?_ ?_<;>intro h
     ·cbv;obtain rfl:=oj h;obtain rfl:=hr3 _ rfl;obtain rfl:=hr2 _ rfl;obtain rfl:=hr1 _ rfl;exact hK _ _ aJ
     ·cbv;refine .ga h (fun (_:Unit)=>[.top,.ptr 0 0,.top,oi je,oi i4]++rp 114 .top) (fun _=>[.cells [dq bC t_.Nodes,dq bJ t_.Leaves] 28]) (fun y hm hr4 ku aY=>?_) fun t h=>?_
      ·have h:=hm;clear hm;cbv;refine .g h (fun (k8:Int)=>[.top,.ptr 0 0,.top,oi je,oi i4,oi k8]++rp 113 .top) (fun k8=>[.cells [dq bC t_.Nodes,dq bJ t_.Leaves] 28]) (.nz (.aB [0] ?_)) fun s x h wo Hr jH=>?_
       ·exact mx
       unfold PY at h;obtain⟨k8,rfl⟩:=ez s;cbv;refine aG h ?_ ?_<;>intro h
       ·cbv;refine .g h (fun _=>rfl) fun x9 h=>?_;cbv;refine .g h (fun _=>rfl) fun x10 h=>?_;cbv;refine .g h (fun v hv=>lv0 hP _ _ v hv) aJ rfl (fun _=>rfl) fun v11 h=>?_;cbv;refine aG h ?_ ?_<;>intro h
        ·cbv;obtain rfl:=oj h;obtain rfl:=wo _ rfl;obtain rfl:=hr4 _ rfl;obtain rfl:=hr3 _ rfl;obtain rfl:=hr2 _ rfl;obtain rfl:=hr1 _ rfl;exact hK _ _ aJ
        ·cbv;obtain rfl:=oj h;exact jH _ _ _ rfl (.nz (.aB [0] mx))
       ·cbv;obtain rfl:=oj h;obtain rfl:=wo _ rfl;exact aY _ _ _ rfl (.nz (.aB [0] mx))
      cbv;refine .g h (fun _=>rfl) fun x12 h=>?_;cbv;refine aG h ?_ ?_<;>intro h
      ·cbv;refine .g h (fun _=>rfl) fun mF h=>?_;cbv;refine aG h ?_ ?_<;>intro h
       ·cbv;obtain rfl:=oj h;obtain rfl:=hr3 _ rfl;obtain rfl:=hr2 _ rfl;obtain rfl:=hr1 _ rfl;exact hK _ _ aJ
       ·cbv;obtain rfl:=oj h;exact aP _ _ _ rfl (.nz (.aB [0] mx))
      ·cbv;obtain rfl:=oj h;exact aP _ _ _ rfl (.nz (.aB [0] mx))
    obtain⟨oN,rfl⟩:=ez t;cbv;obtain rfl:=oj h;exact bg _ _ _ rfl (.nz (.aB [0] mx))
   ·cbv;obtain rfl:=oj h;obtain rfl:=hr2 _ rfl;exact aC _ _ _ rfl (.nz (.aB [0] mx))
  obtain⟨gK,rfl⟩:=ez t;cbv;refine .ga h (fun (_:Unit)=>[.top,.ptr 0 0,.top,oi gK]++rp 115 .top) (fun _=>[.cells [dq bC t_.Nodes,dq bJ t_.Leaves] 28]) (fun y hm hr1 Kn1 aC=>?_) fun t h=>?_
  ·have h:=hm;clear hm;cbv;refine .g h (fun (DU:Int)=>[.top,.ptr 0 0,.top,oi gK,.top,.top,oi DU]++rp 112 .top) (fun DU=>[.cells [dq bC t_.Nodes,dq bJ t_.Leaves] 28]) (.nz (.aB [0] ?_)) fun s x h hr2 Kn2 bg=>?_
   ·exact mx
   unfold PN at h;obtain⟨DU,rfl⟩:=ez s;cbv;refine aG h ?_ ?_<;>intro h
   ·cbv;refine .ga h (fun (_:Unit)=>[.top,.ptr 0 0,.top,oi gK,.top,.top,oi DU]++rp 112 .top) (fun _=>[.cells [dq bC t_.Nodes,dq bJ t_.Leaves] 28]) (fun y hm hr3 Kn3 aP=>?_) fun t h=>?_
    ·have h:=hm;clear hm;cbv;refine .g h (fun (k15:Int)=>[.top,.ptr 0 0,.top,oi gK,.top,.top,oi DU,oi k15]++rp 111 .top) (fun k15=>[.cells [dq bC t_.Nodes,dq bJ t_.Leaves] 28]) (.nz (.aB [0] ?_)) fun s x h hr4 ku aY=>?_
     ·exact mx
     unfold PZ at h;obtain⟨k15,rfl⟩:=ez s;cbv;refine aG h ?_ ?_<;>intro h
     ·cbv;refine .g h (fun _=>rfl) fun x16 h=>?_;cbv;refine .g h (fun _=>rfl) fun x17 h=>?_;cbv;refine aG h ?_ ?_<;>intro h
      ·cbv;obtain rfl:=oj h;obtain rfl:=hr4 _ rfl;obtain rfl:=hr3 _ rfl;obtain rfl:=hr2 _ rfl;obtain rfl:=hr1 _ rfl;exact hK _ _ aJ
      ·cbv;obtain rfl:=oj h;exact aY _ _ _ rfl (.nz (.aB [0] mx))
     ·cbv;obtain rfl:=oj h;obtain rfl:=hr4 _ rfl;exact aP _ _ _ rfl (.nz (.aB [0] mx))
    cbv;obtain rfl:=oj h;exact bg _ _ _ rfl (.nz (.aB [0] mx))
   ·cbv;obtain rfl:=oj h;obtain rfl:=hr2 _ rfl;exact aC _ _ _ rfl (.nz (.aB [0] mx))
  cbv;refine .g h (fun (gJ:(List Int))=>[.top,.ptr 0 0,.top,oi gK]++rp 4 .top++[.hd 1]++rp 110 .top) (fun gJ=>[.cells [dq bC t_.Nodes,dq bJ t_.Leaves] 28,rC gJ]) (fun y hm Kn1 aC=>?_) fun t h=>?_
  ·have h:=hm;clear hm;cbv;refine .inl (hP▸ZF) ?_;cbv;refine .g h (fun v hv=>WJ hP _ _ v hv) aJ rfl (fun _=>rfl) fun v19 h=>?_;cbv;refine aG h ?_ ?_<;>intro h
   ·cbv;obtain rfl:=oj h;exact aC _ _ _ rfl (.Mc 8 3 1 rfl (.nz (.aB [0,2] mx)))
   ·cbv;refine .g (e:=aH) h (gU aJ (jP _)) fun SH h=>?_;cbv;refine .g0 h rfl (fun _=>rfl) (by decide) fun JL h=>?_;cbv;refine .g h (fun (oJ:(List Int))=>[.top,.top,.hd 1]++rp 37 .top) (fun oJ=>[.cells [dq bC t_.Nodes,dq bJ t_.Leaves] 28,rC oJ]) (fun y hm Kn2 bg=>?_) fun t h=>?_
    ·have h:=hm;clear hm;cbv;refine .g h (fun ((mO,i24):(List Int)×Int)=>[.top,oi 0,.hd 1,.ptr 2 0]++rp 3 .top++[oi i24]++rp 32 .top) (fun (mO,i24)=>[.cells [dq bC t_.Nodes,dq bJ t_.Leaves] 28,rC mO,.cells [dq bC t_.Nodes,dq bJ t_.Leaves] 28]) (.nz (.aB [0,3,1] ?_)) fun s x h hr3 Kn3 aP=>?_
     ·exact mx
     unfold PK at h;obtain⟨mO,i24⟩:=s;cbv;refine .g h (fun _=>rfl) fun x25 h=>?_;cbv;refine aG h ?_ ?_<;>intro h
     ·cbv;refine .g h (fun (oH:(List Int))=>[.top,oi 0,.hd 1,.ptr 2 0]++rp 3 .top++[oi i24]++rp 32 .top) (fun oH=>[.cells [dq bC t_.Nodes,dq bJ t_.Leaves] 28,rC oH,.cells [dq bC t_.Nodes,dq bJ t_.Leaves] 28]) (fun y hm ku aY=>?_) fun t h=>?_
      ·have h:=hm;clear hm;cbv;refine .g h (fun _=>rfl) fun x27 h=>?_;cbv;refine .g h (fun _=>rfl) fun x28 h=>?_;cbv;obtain⟨r29,hm,h⟩:=Option.bind_eq_some_iff.1 h;refine .xg [1] (ZU hP t_.Nodes t_.Leaves 61 _ _ _ hm) mx fun sv0 dG hq _=>?_;obtain⟨rfl,rfl⟩:=hq;clear hm;cbv;obtain rfl:=oj h;exact aY _ _ _ rfl (.nz (.aB [0,3,2] mx))
      obtain⟨oH,rfl⟩:=ez t;cbv;obtain rfl:=oj h;exact aP _ _ _ rfl (.nz (.aB [0,1,2] mx))
     ·cbv;obtain rfl:=oj h;obtain rfl:=hr3 _ rfl;exact bg _ _ _ rfl (.nz (.aB [0,1] mx))
    obtain⟨oJ,rfl⟩:=ez t;cbv;obtain rfl:=oj h;exact aC _ _ _ rfl (.nz (.aB [0,1] mx))
  obtain⟨gJ,rfl⟩:=ez t;cbv;refine .ga h (fun (_:Unit)=>[.top,.ptr 0 0,.top,oi gK]++rp 4 .top++[.hd 1]++rp 110 .top) (fun _=>[.cells [dq bC t_.Nodes,dq bJ t_.Leaves] 28,rC gJ]) (fun y hm hr1 Kn1 aC=>?_) fun t h=>?_
  ·have h:=hm;clear hm;cbv;refine .g h (fun (i30:Int)=>[.top,.ptr 0 0,.top,oi gK]++rp 4 .top++[.hd 1,oi i30]++rp 109 .top) (fun i30=>[.cells [dq bC t_.Nodes,dq bJ t_.Leaves] 28,rC gJ]) (.nz (.aB [0,1] ?_)) fun s x h hr2 Kn2 bg=>?_
   ·exact mx
   unfold PU at h;obtain⟨i30,rfl⟩:=ez s;cbv;refine aG h ?_ ?_<;>intro h
   ·cbv;refine .g h fun i31 h=>?_;cbv;refine .g h fun v32 h=>?_;cbv;refine aG h ?_ ?_<;>intro h
    ·cbv;obtain rfl:=oj h;obtain rfl:=hr2 _ rfl;obtain rfl:=hr1 _ rfl;exact hK _ _ aJ
    ·cbv;obtain rfl:=oj h;exact bg _ _ _ rfl (.nz (.aB [0,1] mx))
   ·cbv;obtain rfl:=oj h;obtain rfl:=hr2 _ rfl;exact aC _ _ _ rfl (.nz (.aB [0,1] mx))
  cbv;refine aG h ?_ ?_<;>intro h
  ·cbv;obtain rfl:=oj h;exact hK _ _ aJ
  ·cbv;obtain rfl:=oj h;exact hK _ _ aJ
end Go.SX.Td
