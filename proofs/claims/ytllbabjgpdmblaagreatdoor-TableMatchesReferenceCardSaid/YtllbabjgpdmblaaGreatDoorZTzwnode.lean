/- Parts of the proof. -/
import Derived.Test.YtllbabjgpdmblaaGreatDoorZTdT
import Derived.Test.YtllbabjgpdmblaaGreatDoorZTd49
import Derived.Test.YtllbabjgpdmblaaGreatDoorZTd28
import Derived.Test.YtllbabjgpdmblaaGreatDoorZTd26d
set_option linter.unusedSimpArgs false
set_option linter.unusedVariables false
set_option linter.unusedSectionVars false
namespace Go.SX.Td
open Go Go.SX Go.Proofs
set_option maxRecDepth 100000
def ie2 : List GOp:=gS 3 [.box 50 1,.mv (ci 0)]
def ia2 : List GOp:=gS 5 [.mv (ci 0)]
def ir2 : List GOp:=gS 6 [.mv 5,.mv 0,.nilck 7,.fadd 2 8,.fadd 0 9,.load 1 false 10,.len false 11,.bin .lss 6 12]
def it2 : List GOp:=gS 16 [.mv 0,.nilck 16,.fadd 2 17,.fadd 0 18,.load 1 false 19,.mv 5,.idxA 4 20 21,.load 4 true 22,.load 4 true 3,.call 29 [23,24]]
def il2 : List GOp:=gS 26 [.mv 5]++gS 4 [.mv 26]
def ic2 : List GOp:=gS 14 [.mv 5,.bin .add 14 (ci 1)]++gS 5 [.mv 15]
def ii2 : DE:=.seq (.seq (.reg ir2) (.cond 13 (.skip) (.exit 0))) (.seq (.block 1 (.seq (.par false true false 9 it2) (.cond 25 (.seq (.reg il2) (.ret)) (.skip)))) (.reg ic2))
def im2 : List GOp:=gS 27 [.mv 0,.mv 0,.nilck 28,.fadd 2 29,.fadd 0 30,.load 1 false 31,.load 4 true 3,.bslice 50 4 1 (.agg #[oz,(.slice none 0 0),(.slice none 0 0),oz]) [(0,33)],.app 50 4 64 (.agg #[oz,(.slice none 0 0),(.slice none 0 0),oz]) 32 34,.nilck 27,.fadd 2 36,.fadd 0 37]
def ye2 : GOp:=⟨none,.store 1 38 35,none⟩
def if2 : List GOp:=gS 39 [.mv 0,.mv 0,.nilck 40,.fadd 7 41,.load 1 false 42,.mv 43]++gQ 44 false 45 [.mv 0,.nilck 45,.fadd 2 46,.fadd 0 47,.load 1 false 48,.len false 49,.bin .gtr 50 (ci 20000)]++gS 52 [.pick 44 (cB true) 51,.nilck 39,.fadd 7 53]++[⟨none,.store 1 54 52,none⟩]
def ip2 : List GOp:=gS 55 [.mv 0,.nilck 55,.fadd 2 56,.fadd 0 57,.load 1 false 58,.len false 59,.bin .sub 60 (ci 1)]++gS 4 [.mv 61]
def c79 : EFn:=⟨62,.seq (.reg ie2) (.join (.seq (.reg ia2) (.block 0 (.loop ii2))) (.seq (.hyl true true 9 im2 ye2) (.join (.reg if2) (.seq (.reg ip2) (.ret))))),[.tmp 4]⟩
theorem yi2 : zv0 Tryz.prog 79=some c79.er:=by kernel_rfl
set_option maxHeartbeats 8000000 in
theorem do1 {P:Program}(hP:P=Tryz.prog)(rules:(List Rule))(zones:(List (A10 Range)))(n:Node)(nodes:(List Node))(leaves:(List Decision))(attr:(List Int))(live:(List (List Int)))(made:(List Int))(full:Bool)(r:Int×(List Node)×(List Decision)×(List Int)×(List (List Int))×(List Int)×Bool)(h:ak0 rules zones n nodes leaves attr live made full=some r):qe0 P 79 [.cells [dq qp0 rules,dq qj0 zones,.hd 1,.hd 2,.hd 3,.hd 4,.hd 5,ob full] 90,rB nodes,rC leaves,rA attr,rD live,rA made] [.ptr 0 0,.agg [oi n.Attr,dq qq0 n.Cuts,dq qq0 n.Kids,oi n.Leaf]] (fun sv own'=>sv=oi r.1∧own'=[.cells [dq qp0 rules,dq qj0 zones,.hd 6,.hd 7,.hd 8,.hd 9,.hd 10,ob r.2.2.2.2.2.2] 90,.gone,.gone,.gone,.gone,.gone,rB r.2.1,rC r.2.2.1,rA r.2.2.2.1,rD r.2.2.2.2.1,rA r.2.2.2.2.2.1]):=by
 refine .yh1 6 rfl (Nat.le_of_ble_eq_true rfl) (hP▸yi2) fun K hK=>?_;unfold ak0 at h;cbv;refine .ga h (fun (_:Unit)=>[.ptr 0 0,.top,.top,.ptr 6 0]++rp 58 .top) (fun _=>[.cells [dq qp0 rules,dq qj0 zones,.hd 1,.hd 2,.hd 3,.hd 4,.hd 5,ob full] 90,rB nodes,rC leaves,rA attr,rD live,rA made,.cells [oi n.Attr,dq qq0 n.Cuts,dq qq0 n.Kids,oi n.Leaf] 50]) (fun y hm hr1 Kn1 hKn1=>?_) fun t h=>?_
 ·have h:=hm;clear hm;cbv;refine .g h (fun (i1:Int)=>[.ptr 0 0,.top,.top,.ptr 6 0,.top,oi i1]++rp 56 .top) (fun i1=>[.cells [dq qp0 rules,dq qj0 zones,.hd 1,.hd 2,.hd 3,.hd 4,.hd 5,ob full] 90,rB nodes,rC leaves,rA attr,rD live,rA made,.cells [oi n.Attr,dq qq0 n.Cuts,dq qq0 n.Kids,oi n.Leaf] 50]) (.nz (.mtE [0,1,2,3,4,5,6] ?_)) fun s x h hr2 Kn2 hKn2=>?_
  ·exact mx
  unfold ft0 at h;obtain⟨i1,rfl⟩:=ez s;cbv;refine qf0 h ?_ ?_<;>intro h
  ·cbv;refine .g h fun i2 h=>?_;cbv;refine .g h fun v3 h=>?_;cbv;refine .g h (fun v hv=>vi0 hP _ _ v hv) aw_ rfl (fun _=>rfl) fun v4 h=>?_;cbv;refine qf0 h ?_ ?_<;>intro h
   ·cbv;obtain rfl:=oj h;obtain rfl:=hr2 _ rfl;obtain rfl:=hr1 _ rfl;exact hK _ _ [0,1,2,3,4,5,1,2,3,4,5] mx
   ·cbv;obtain rfl:=oj h;exact hKn2 _ _ _ rfl (.nz (.mtE [0,1,2,3,4,5,6] mx))
  ·cbv;obtain rfl:=oj h;obtain rfl:=hr2 _ rfl;exact hKn1 _ _ _ rfl (.nz (.mtE [0,1,2,3,4,5,6] mx))
 cbv;refine .g (e:=qk0) h (qd0 aw_ (zw0 _)) fun l5 h=>?_;cbv;refine .g h rfl (fun _=>rfl) (by decide) fun l6 h=>?_;cbv;refine .g h (fun (Full7:Bool)=>[.ptr 0 0]++rp 61 .top) (fun Full7=>[.cells [dq qp0 rules,dq qj0 zones,.hd 6,.hd 2,.hd 3,.hd 4,.hd 5,ob Full7] 90,.gone,rC leaves,rA attr,rD live,rA made,rB l6]) (fun y hm Kn1 hKn1=>?_) fun t h=>?_
 ·have h:=hm;clear hm;cbv;refine qf0 h ?_ ?_<;>intro h
  ·cbv;obtain rfl:=oj h;exact hKn1 _ _ _ rfl (.nz (.mtE [0,1,2,3,4,5,7] mx))
  ·cbv;obtain rfl:=oj h;exact hKn1 _ _ _ rfl (.nz (.mtE [0,1,2,3,4,5,7] mx))
 obtain⟨Full7,rfl⟩:=ez t;cbv;obtain rfl:=oj h;exact hK _ _ [0,1,2,3,4,5,6,2,3,4,5] mx
end Go.SX.Td
namespace Go.SX.Td
open Go Go.SX Go.Proofs
set_option maxRecDepth 100000
def qx3 : List GOp:=gS 3 [.box 44 1,.mv (ci 0)]
def qj3 : List GOp:=gS 5 [.mv (ci (-1))]
def qz3 : List GOp:=gS 6 [.mv (ci 0)]
def qq3 : List GOp:=gS 7 [.mv 6,.mv 0,.nilck 8,.fadd 2 9,.fadd 1 10,.load 1 false 11,.len false 12,.bin .lss 7 13]
def ou2 : List GOp:=gS 17 [.mv 0,.nilck 17,.fadd 2 18,.fadd 1 19,.load 1 false 20,.mv 6,.idxA 16 21 22,.load 16 true 23,.load 16 true 3,.beq false [.bool,.bool,.bool,.int,.int,.int,.int,.int,.int,.int,.int,.int,.int,.int,.int,.int] 24 25]
def oo2 : List GOp:=gS 27 [.mv 6]++gS 5 [.mv 27]
def oi2 : List GOp:=gS 15 [.mv 6,.bin .add 15 (ci 1)]++gS 6 [.mv 16]
def qk3 : DE:=.seq (.seq (.reg qq3) (.cond 14 (.skip) (.exit 0))) (.join (.block 1 (.seq (.par true true true 9 ou2) (.cond 26 (.reg oo2) (.skip)))) (.reg oi2))
def oe2 : List GOp:=gS 28 [.mv 5,.bin .lss 28 (ci 0)]
def oa2 : List GOp:=gS 30 [.mv 0,.nilck 30,.fadd 2 31,.fadd 1 32,.load 1 false 33,.len false 34]++gS 5 [.mv 35]
def je2 : List GOp:=gS 36 [.mv 0,.mv 0,.nilck 37,.fadd 2 38,.fadd 1 39,.load 1 false 40,.load 16 true 3,.bslice 44 16 1 (.agg #[(.bool false),(.bool false),(.bool false),oz,oz,oz,oz,oz,oz,oz,oz,oz,oz,oz,oz,oz]) [(0,42)],.app 44 16 112 (.agg #[(.bool false),(.bool false),(.bool false),oz,oz,oz,oz,oz,oz,oz,oz,oz,oz,oz,oz,oz]) 41 43,.nilck 36,.fadd 2 45,.fadd 1 46]
def oe1 : GOp:=⟨none,.store 1 47 44,none⟩
def ja2 : List GOp:=gS 48 [.mv 0,.mv 5,.build (.agg #[oz,(.slice none 0 0),(.slice none 0 0),oz]) [((3,1),49)],.call 79 [48,50]]++gS 4 [.mv 51]
def c76 : EFn:=⟨52,.seq (.reg qx3) (.seq (.reg qj3) (.join (.seq (.reg qz3) (.block 0 (.loop qk3))) (.join (.seq (.reg oe2) (.cond 29 (.seq (.reg oa2) (.hyl true true 9 je2 oe1)) (.skip))) (.seq (.reg ja2) (.ret))))),[.tmp 4]⟩
theorem ji2 : zv0 Tryz.prog 76=some c76.er:=by kernel_rfl
set_option maxHeartbeats 8000000 in
theorem eo1 {P:Program}(hP:P=Tryz.prog)(rules:(List Rule))(zones:(List (A10 Range)))(d:Decision)(nodes:(List Node))(leaves:(List Decision))(attr:(List Int))(live:(List (List Int)))(made:(List Int))(full:Bool)(r:Int×(List Node)×(List Decision)×(List Int)×(List (List Int))×(List Int)×Bool)(h:nn0 rules zones d nodes leaves attr live made full=some r):qe0 P 76 [.cells [dq qp0 rules,dq qj0 zones,.hd 1,.hd 2,.hd 3,.hd 4,.hd 5,ob full] 90,rB nodes,rC leaves,rA attr,rD live,rA made] [.ptr 0 0,.agg [ob d.Allowed,ob d.Together,ob d.Single,oi d.Limit,oi d.Price,oi d.Fee.Num,oi d.Fee.Den,oi d.Tax.Num,oi d.Tax.Den,oi d.Cap.Num,oi d.Cap.Den,oi d.Share.Num,oi d.Share.Den,oi d.Refund.Num,oi d.Refund.Den,oi d.By]] (fun sv own'=>sv=oi r.1∧own'=[.cells [dq qp0 rules,dq qj0 zones,.hd 6,.hd 7,.hd 8,.hd 9,.hd 10,ob r.2.2.2.2.2.2] 90,.gone,.gone,.gone,.gone,.gone,rB r.2.1,rC r.2.2.1,rA r.2.2.2.1,rD r.2.2.2.2.1,rA r.2.2.2.2.2.1]):=by
 refine .yh1 6 rfl (Nat.le_of_ble_eq_true rfl) (hP▸ji2) fun K hK=>?_;unfold nn0 at h;cbv;refine .g h (fun (at1:Int)=>[.ptr 0 0,.top,.top,.ptr 6 0,.top,oi at1]++rp 46 .top) (fun at1=>[.cells [dq qp0 rules,dq qj0 zones,.hd 1,.hd 2,.hd 3,.hd 4,.hd 5,ob full] 90,rB nodes,rC leaves,rA attr,rD live,rA made,.cells [ob d.Allowed,ob d.Together,ob d.Single,oi d.Limit,oi d.Price,oi d.Fee.Num,oi d.Fee.Den,oi d.Tax.Num,oi d.Tax.Den,oi d.Cap.Num,oi d.Cap.Den,oi d.Share.Num,oi d.Share.Den,oi d.Refund.Num,oi d.Refund.Den,oi d.By] 44]) (fun y hm Kn1 hKn1=>?_) fun t h=>?_
 ·have h:=hm;clear hm;cbv;refine .g h (fun ((at2,i3):Int×Int)=>[.ptr 0 0,.top,.top,.ptr 6 0,.top,oi at2,oi i3]++rp 45 .top) (fun (at2,i3)=>[.cells [dq qp0 rules,dq qj0 zones,.hd 1,.hd 2,.hd 3,.hd 4,.hd 5,ob full] 90,rB nodes,rC leaves,rA attr,rD live,rA made,.cells [ob d.Allowed,ob d.Together,ob d.Single,oi d.Limit,oi d.Price,oi d.Fee.Num,oi d.Fee.Den,oi d.Tax.Num,oi d.Tax.Den,oi d.Cap.Num,oi d.Cap.Den,oi d.Share.Num,oi d.Share.Den,oi d.Refund.Num,oi d.Refund.Den,oi d.By] 44]) (.nz (.mtE [0,1,2,3,4,5,6] ?_)) fun s x h hr2 Kn2 hKn2=>?_
  ·exact mx
  unfold sk0 at h;obtain⟨at2,i3⟩:=s;cbv;refine qf0 h ?_ ?_<;>intro h
  ·cbv;refine .g h (fun (at4:Int)=>[.ptr 0 0,.top,.top,.ptr 6 0,.top,oi at4,oi i3]++rp 45 .top) (fun at4=>[.cells [dq qp0 rules,dq qj0 zones,.hd 1,.hd 2,.hd 3,.hd 4,.hd 5,ob full] 90,rB nodes,rC leaves,rA attr,rD live,rA made,.cells [ob d.Allowed,ob d.Together,ob d.Single,oi d.Limit,oi d.Price,oi d.Fee.Num,oi d.Fee.Den,oi d.Tax.Num,oi d.Tax.Den,oi d.Cap.Num,oi d.Cap.Den,oi d.Share.Num,oi d.Share.Den,oi d.Refund.Num,oi d.Refund.Den,oi d.By] 44]) (fun y hm Kn3 hKn3=>?_) fun t h=>?_
   ·have h:=hm;clear hm;cbv;refine .g h fun i5 h=>?_;cbv;refine .g h fun v6 h=>?_;cbv;refine qf0 h ?_ ?_<;>intro h
    ·cbv;obtain rfl:=oj h;exact hKn3 _ _ _ rfl (.nz (.mtE [0,1,2,3,4,5,6] mx))
    ·cbv;obtain rfl:=oj h;exact hKn3 _ _ _ rfl (.nz (.mtE [0,1,2,3,4,5,6] mx))
   obtain⟨at4,rfl⟩:=ez t;cbv;obtain rfl:=oj h;exact hKn2 _ _ _ rfl (.nz (.mtE [0,1,2,3,4,5,6] mx))
  ·cbv;obtain rfl:=oj h;obtain rfl:=hr2 _ rfl;exact hKn1 _ _ _ rfl (.nz (.mtE [0,1,2,3,4,5,6] mx))
 obtain⟨at1,rfl⟩:=ez t;cbv;refine .g h (fun ((Leaves7,at8):(List Decision)×Int)=>[.ptr 0 0]++rp 4 .top++[oi at8]++rp 46 .top) (fun (Leaves7,at8)=>[.cells [dq qp0 rules,dq qj0 zones,.hd 1,.hd 6,.hd 3,.hd 4,.hd 5,ob full] 90,rB nodes,.gone,rA attr,rD live,rA made,rC Leaves7]) (fun y hm Kn1 hKn1=>?_) fun t h=>?_
 ·have h:=hm;clear hm;cbv;refine qf0 h ?_ ?_<;>intro h
  ·cbv;refine .g (e:=qz0) h (qd0 aw_ (zw0 _)) fun l9 h=>?_;cbv;refine .g h rfl (fun _=>rfl) (by decide) fun l10 h=>?_;cbv;obtain rfl:=oj h;exact hKn1 _ _ _ rfl (.nz (.mtE [0,1,2,3,4,5,7] mx))
  ·cbv;obtain rfl:=oj h;exact hKn1 _ _ _ rfl (.nz (.mtE [0,1,2,3,4,5,2] mx))
 obtain⟨Leaves7,at8⟩:=t;cbv;obtain⟨r11,hm,h⟩:=Option.bind_eq_some_iff.1 h;refine .dr1 [0,1,6,3,4,5] (do1 hP _ _ _ _ _ _ _ _ _ _ hm) mx fun sv0 own0 hq _=>?_;obtain⟨rfl,rfl⟩:=hq;clear hm;cbv;obtain rfl:=oj h;exact hK _ _ [0,1,2,3,4,5,7,8,9,10,11] mx
end Go.SX.Td
namespace Go.SX.Td
open Go Go.SX Go.Proofs
set_option maxRecDepth 100000
def km3 : List GOp:=gS 3 [.box 28 0]++gS 6 [.mv cn]
def kf3 : List GOp:=gS 8 [.mv 2,.mv 1,.call 80 [8,9]]
def kh3 : List GOp:=gS 11 [.mv 2]++gS 6 [.mv 11]
def kp3 : List GOp:=gS 12 [.mv 2,.mv 1,.bslice 3 1 1 oz [(0,13)],.app 3 1 8 oz 12 14]++gS 2 [.mv 15]
def kg3 : List GOp:=gS 7 [.mv (ci 0)]
def kb3 : List GOp:=gS 16 [.mv 7,.fadd 0 3,.load 1 false 17,.mv 1,.idxA 4 18 19,.fadd 2 20,.load 1 false 21,.len false 22,.bin .lss 16 23]
def ky3 : List GOp:=gS 27 [.load 2 true 3,.fadd 0 3,.load 1 false 28,.mv 1,.idxA 4 29 30,.fadd 2 31,.load 1 false 32,.mv 7,.idxA 1 33 34,.load 1 false 35,.mv 2]
def vo2 : List GOp:=gS 38 [.call 38 [27,36,37]]++gS 2 [.mv 38]
def kw3 : List GOp:=gS 25 [.mv 7,.bin .add 25 (ci 1)]++gS 7 [.mv 26]
def kc3 : DE:=.seq (.seq (.reg kb3) (.cond 24 (.skip) (.exit 0))) (.join (.block 1 (.sfx false false false ky3 vo2)) (.reg kw3))
def kv3 : List GOp:=gS 39 [.mv 2]++gS 6 [.mv 39]
def c38 : EFn:=⟨40,.seq (.reg km3) (.seq (.seq (.reg kf3) (.cond 10 (.seq (.reg kh3) (.ret)) (.skip))) (.seq (.reg kp3) (.join (.seq (.reg kg3) (.block 0 (.loop kc3))) (.seq (.reg kv3) (.ret))))),[.tmp 6]⟩
theorem mz1 : zv0 Tryz.prog 38=some c38.er:=by kernel_rfl
set_option maxHeartbeats 8000000 in
theorem ic1 {P:Program}(hP:P=Tryz.prog)(nodes:(List Node))(leaves:(List Decision))(rec:(Int→(List Int)→Option ((List Int))))(at0:Int)(order:(List Int))(hrec:∀ at0 order r,rec at0 order=some r→qe0 P 38 [rA order] [.agg [dq qk0 nodes,dq qz0 leaves],oi at0,.hd 0] (fun sv own'=>sv=.hd 1∧own'=[.gone,rA r]))(r:(List Int))(h:by0 nodes leaves rec at0 order=some r):qe0 P 38 [rA order] [.agg [dq qk0 nodes,dq qz0 leaves],oi at0,.hd 0] (fun sv own'=>sv=.hd 1∧own'=[.gone,rA r]):=by
 refine .yh1 1 rfl (Nat.le_of_ble_eq_true rfl) (hP▸mz1) fun K hK=>?_;unfold by0 at h;cbv;refine .gl [] h (fun v hv=>sm0 hP _ _ v hv) aw_ rfl fun v1 h=>?_;cbv;refine qf0 h ?_ ?_<;>intro h
 ·cbv;obtain rfl:=oj h;exact hK _ _ [0,0] mx
 ·cbv;refine .g (e:=qq0) h (qd0 aw_ (zw0 _)) fun l2 h=>?_;cbv;refine .g h rfl (fun _=>rfl) (by decide) fun order3 h=>?_;cbv;refine .g h (fun (order4:(List Int))=>[.top,.top,.hd 1]++rp 37 .top) (fun order4=>[.gone,rA order4]) (fun y hm Kn1 hKn1=>?_) fun t h=>?_
  ·have h:=hm;clear hm;cbv;refine .g h (fun ((order5,i6):(List Int)×Int)=>[.top,oi at0,.hd 1,.ptr 2 0]++rp 3 .top++[oi i6]++rp 32 .top) (fun (order5,i6)=>[.gone,rA order5,.cells [dq qk0 nodes,dq qz0 leaves] 28]) (.nz (.mtE [0,3,1] ?_)) fun s x h hr2 Kn2 hKn2=>?_
   ·exact mx
   unfold sy0 at h;obtain⟨order5,i6⟩:=s;cbv;refine .g h (fun _=>rfl) fun x7 h=>?_;cbv;refine qf0 h ?_ ?_<;>intro h
   ·cbv;refine .g h (fun (order8:(List Int))=>[.top,oi at0,.hd 1,.ptr 2 0]++rp 3 .top++[oi i6]++rp 32 .top) (fun order8=>[.gone,rA order8,.cells [dq qk0 nodes,dq qz0 leaves] 28]) (fun y hm Kn3 hKn3=>?_) fun t h=>?_
    ·have h:=hm;clear hm;cbv;refine .g h (fun _=>rfl) fun x9 h=>?_;cbv;refine .g h (fun _=>rfl) fun x10 h=>?_;cbv;obtain⟨r11,hm,h⟩:=Option.bind_eq_some_iff.1 h;refine .emb [1] (hrec _ _ _ hm) mx fun sv0 own0 hq _=>?_;obtain⟨rfl,rfl⟩:=hq;clear hm;cbv;obtain rfl:=oj h;exact hKn3 _ _ _ rfl (.nz (.mtE [0,3,2] mx))
    obtain⟨order8,rfl⟩:=ez t;cbv;obtain rfl:=oj h;exact hKn2 _ _ _ rfl (.nz (.mtE [0,1,2] mx))
   ·cbv;obtain rfl:=oj h;obtain rfl:=hr2 _ rfl;exact hKn1 _ _ _ rfl (.nz (.mtE [0,1] mx))
  obtain⟨order4,rfl⟩:=ez t;cbv;obtain rfl:=oj h;exact hK _ _ [0,1] mx
theorem bg0 {P:Program}(hP:P=Tryz.prog)(nodes:(List Node))(leaves:(List Decision)):∀ (n:Nat)(at0:Int)(order:(List Int))(r:(List Int)),iv0 nodes leaves n at0 order=some r→qe0 P 38 [rA order] [.agg [dq qk0 nodes,dq qz0 leaves],oi at0,.hd 0] (fun sv own'=>sv=.hd 1∧own'=[.gone,rA r])
 | 0,_,_,_,h=>by cases h
 | n+1,at0,order,r,h=>ic1 hP nodes leaves _ at0 order (bg0 hP nodes leaves n) r h
end Go.SX.Td
namespace Go.SX.Td
open Go Go.SX Go.Proofs
set_option maxRecDepth 100000
noncomputable def wi0 (n:Node)(Lo2:Int)(Hi3:Int):Int→Option ((Int) ⊕ ((Unit) ⊕ (Bool)))
 | i6 =>
 bif (io.lt i6 (io.len (W qq0 n.Cuts))) then (
 Option.bind (
 Option.bind (zf0 n.Cuts i6) fun x8 =>
 bif (io.le x8 Lo2) then (
 some true
 ) else (
 Option.bind (zf0 n.Cuts i6) fun x9 =>
 bif (io.lt Hi3 x9) then (
 some true
 ) else (
 bif (io.lt 0 i6) then (
 Option.bind (zf0 n.Cuts i6) fun x10 =>
 Option.bind (zf0 n.Cuts (io.ar .sub .i64 i6 1)) fun x11 =>
 some (io.le x10 x11)
 ) else (
 some false
 )
 )
 )
 ) fun v7 =>
 bif v7 then (
 some (.inr (.inr false))
 ) else (
 some (.inl (io.ar .add .i64 i6 1))
 )
 ) else (
 some (.inr (.inl ()))
 )
noncomputable def ut0 (n:Node)(t_:Table):Int→Option ((Int) ⊕ ((Unit) ⊕ (Bool)))
 | i12 =>
 bif (io.lt i12 (io.len (W qq0 n.Kids))) then (
 Option.bind (zf0 n.Kids i12) fun x13 =>
 Option.bind (
 bif (io.lt x13 0) then (
 some true
 ) else (
 bif (io.le (io.len (W qk0 t_.Nodes)) x13) then (
 some true
 ) else (
 bif (io.lt 0 i12) then (
 Option.bind (zf0 n.Kids (io.ar .sub .i64 i12 1)) fun x15 =>
 bif (io.eq x15 x13) then (
 some true
 ) else (
 Option.bind (zf0 t_.Nodes x13) fun x16 =>
 bif (io.lt 0 (io.len (W qq0 x16.Kids))) then (
 Option.bind (zf0 t_.Nodes x13) fun x17 =>
 some (io.le x17.Attr n.Attr)
 ) else (
 some false
 )
 )
 ) else (
 Option.bind (zf0 t_.Nodes x13) fun x18 =>
 bif (io.lt 0 (io.len (W qq0 x18.Kids))) then (
 Option.bind (zf0 t_.Nodes x13) fun x19 =>
 some (io.le x19.Attr n.Attr)
 ) else (
 some false
 )
 )
 )
 )
 ) fun v14 =>
 bif v14 then (
 some (.inr (.inr false))
 ) else (
 some (.inl (io.ar .add .i64 i12 1))
 )
 ) else (
 some (.inr (.inl ()))
 )
noncomputable def vk0 (t_:Table)(n:Node):Option (Bool) :=
 bif (io.eq (io.len (W qq0 n.Kids)) 0) then (
 bif (io.eq (io.len (W qq0 n.Cuts)) 0) then (
 bif (io.eq n.Attr 0) then (
 bif (io.le 0 n.Leaf) then (
 some (io.lt n.Leaf (io.len (W qz0 t_.Leaves)))
 ) else (
 some false
 )
 ) else (
 some false
 )
 ) else (
 some false
 )
 ) else (
 Option.bind (
 bif (io.lt n.Attr 0) then (
 some true
 ) else (
 bif (io.le 10 n.Attr) then (
 some true
 ) else (
 bif (io.not (io.eq n.Leaf 0)) then (
 some true
 ) else (
 bif (io.not (io.eq (io.len (W qq0 n.Kids)) (io.ar .add .i64 (io.len (W qq0 n.Cuts)) 1))) then (
 some true
 ) else (
 some (io.eq (io.len (W qq0 n.Cuts)) 0)
 )
 )
 )
 )
 ) fun v1 =>
 bif v1 then (
 some false
 ) else (
 Option.bind (
 Option.bind (zr0) fun v4 =>
 Option.bind (ac0 10 n.Attr) fun i5 =>
 some ((v4.get i5).Lo,(v4.get i5).Hi)
 ) fun (Lo2,Hi3) =>
 orR (
 qw0 (wi0 n Lo2 Hi3) 0
 ) fun _ =>
 orR (
 qw0 (ut0 n t_) 0
 ) fun _ =>
 some true
 )
 )
end Go.SX.Td
namespace Go.SX.Td
open Go Go.SX Go.Proofs
set_option maxRecDepth 100000
noncomputable def yi0 (i4:Int)(t_:Table):Int→Option ((Int) ⊕ ((Unit) ⊕ ((Int) ⊕ ((Int×Int) ⊕ ((Int) ⊕ (Bool))))))
 | k8 =>
 bif (io.lt k8 i4) then (
 Option.bind (zf0 t_.Nodes i4) fun x9 =>
 Option.bind (zf0 t_.Nodes k8) fun x10 =>
 Option.bind (wh0 x9 x10) fun v11 =>
 bif v11 then (
 some (.inr (.inr (.inr (.inr (.inr false)))))
 ) else (
 some (.inl (io.ar .add .i64 k8 1))
 )
 ) else (
 some (.inr (.inl ()))
 )
noncomputable def yo0 (t_:Table):(Int×Int)→Option ((Int×Int) ⊕ ((Int) ⊕ (Bool)))
 | (leaves3,i4) =>
 bif (io.lt i4 (io.len (W qk0 t_.Nodes))) then (
 orR (
 Option.bind (zf0 t_.Nodes i4) fun x6 =>
 Option.bind (vk0 t_ x6) fun v7 =>
 bif (io.not v7) then (
 some (.inr (.inr (.inr false)))
 ) else (
 orR (
 qw0 (yi0 i4 t_) 0
 ) fun _ =>
 Option.bind (zf0 t_.Nodes i4) fun x12 =>
 bif (io.eq (io.len (W qq0 x12.Kids)) 0) then (
 Option.bind (zf0 t_.Nodes i4) fun x13 =>
 bif (io.not (io.eq x13.Leaf leaves3)) then (
 some (.inr (.inr (.inr false)))
 ) else (
 some (.inl (io.ar .add .i64 leaves3 1))
 )
 ) else (
 some (.inl leaves3)
 )
 )
 ) fun leaves5 =>
 some (.inl (leaves5,(io.ar .add .i64 i4 1)))
 ) else (
 some (.inr (.inl leaves3))
 )
noncomputable def ya0 (i14:Int)(t_:Table):Int→Option ((Int) ⊕ ((Unit) ⊕ ((Int) ⊕ ((Unit) ⊕ (Bool)))))
 | k15 =>
 bif (io.lt k15 i14) then (
 Option.bind (zf0 t_.Leaves i14) fun x16 =>
 Option.bind (zf0 t_.Leaves k15) fun x17 =>
 bif (jb0 x16 x17) then (
 some (.inr (.inr (.inr (.inr false))))
 ) else (
 some (.inl (io.ar .add .i64 k15 1))
 )
 ) else (
 some (.inr (.inl ()))
 )
noncomputable def ye0 (t_:Table):Int→Option ((Int) ⊕ ((Unit) ⊕ (Bool)))
 | i14 =>
 bif (io.lt i14 (io.len (W qz0 t_.Leaves))) then (
 orR (
 qw0 (ya0 i14 t_) 0
 ) fun _ =>
 some (.inl (io.ar .add .i64 i14 1))
 ) else (
 some (.inr (.inl ()))
 )
noncomputable def yr0 (t_:Table):((List Int)×Int)→Option (((List Int)×Int) ⊕ ((List Int)))
 | (order23,i24) =>
 Option.bind (zf0 t_.Nodes 0) fun x25 =>
 bif (io.lt i24 (io.len (W qq0 x25.Kids))) then (
 Option.bind (
 Option.bind (zf0 t_.Nodes 0) fun x27 =>
 Option.bind (zf0 x27.Kids i24) fun x28 =>
 Option.bind (iv0 t_.Nodes t_.Leaves 61 x28 order23) fun r29 =>
 some r29
 ) fun order26 =>
 some (.inl (order26,(io.ar .add .i64 i24 1)))
 ) else (
 some (.inr order23)
 )
noncomputable def yn0 (order18:(List Int)):Int→Option ((Int) ⊕ ((Unit) ⊕ (Bool)))
 | i30 =>
 bif (io.lt i30 (io.len (W qq0 order18))) then (
 Option.bind (gq0 order18 i30) fun i31 =>
 Option.bind (order18[i31]?) fun v32 =>
 bif (io.not (io.eq v32 i30)) then (
 some (.inr (.inr false))
 ) else (
 some (.inl (io.ar .add .i64 i30 1))
 )
 ) else (
 some (.inr (.inl ()))
 )
noncomputable def wn0 (t_:Table):Option (Bool) :=
 Option.bind (
 bif (io.lt (io.len (W qk0 t_.Nodes)) 1) then (
 some true
 ) else (
 some (io.lt 20000 (io.len (W qk0 t_.Nodes)))
 )
 ) fun v1 =>
 bif v1 then (
 some false
 ) else (
 orR (
 qw0 (yo0 t_) (0,0)
 ) fun leaves2 =>
 orR (
 qw0 (ye0 t_) 0
 ) fun _ =>
 Option.bind (
 Option.bind (kk0 [] 0) fun v19 =>
 bif v19 then (
 some []
 ) else (
 Option.bind (some [0]) fun l20 =>
 Option.bind (appG ([]:List Int) l20) fun l21 =>
 Option.bind (
 qw0 (yr0 t_) (l21,0)
 ) fun order22 =>
 some order22
 )
 ) fun order18 =>
 orR (
 qw0 (yn0 order18) 0
 ) fun _ =>
 bif (io.eq (io.len (W qq0 order18)) (io.len (W qk0 t_.Nodes))) then (
 some (io.eq leaves2 (io.len (W qz0 t_.Leaves)))
 ) else (
 some false
 )
 )
end Go.SX.Td
namespace Go.SX.Td
open Go Go.SX Go.Proofs
set_option maxRecDepth 100000
def jm3 : List GOp:=gS 2 [.box 28 0,.box 50 1,.mv (cB false)]
def jf3 : List GOp:=gS 9 [.fadd 2 3,.load 1 false 9,.len false 10,.bin .eql 11 (ci 0)]
def jh3 : List GOp:=gS 13 [.fadd 1 3,.load 1 false 13,.len false 14,.bin .eql 15 (ci 0),.mv 16]++gQ 17 true 18 [.fadd 0 3,.load 1 false 18,.bin .eql 19 (ci 0)]++gS 21 [.pick 17 20 (cB false),.mv 21]++gQ 22 true 23 [.fadd 3 3,.load 1 false 23,.bin .geq 24 (ci 0)]++gS 26 [.pick 22 25 (cB false),.mv 26]++gQ 27 true 28 [.fadd 3 3,.load 1 false 28,.fadd 1 2,.load 1 false 30,.len false 31,.bin .lss 29 32]++gS 34 [.pick 27 33 (cB false)]++gS 4 [.mv 34]
def jp3 : List GOp:=gS 35 [.fadd 0 3,.load 1 false 35,.bin .lss 36 (ci 0),.mv 37]++gQ 38 false 39 [.fadd 0 3,.load 1 false 39,.bin .geq 40 (ci 10)]++gS 42 [.pick 38 (cB true) 41,.mv 42]++gQ 43 false 44 [.fadd 3 3,.load 1 false 44,.bin .neq 45 (ci 0)]++gS 47 [.pick 43 (cB true) 46,.mv 47]++gQ 48 false 49 [.fadd 2 3,.load 1 false 49,.len false 50,.fadd 1 3,.load 1 false 52,.len false 53,.bin .add 54 (ci 1),.bin .neq 51 55]++gS 57 [.pick 48 (cB true) 56,.mv 57]++gQ 58 false 59 [.fadd 1 3,.load 1 false 59,.len false 60,.bin .eql 61 (ci 0)]++gS 63 [.pick 58 (cB true) 62]
def jg3 : List GOp:=gS 4 [.mv (cB false)]
def jb3 : List GOp:=gS 64 [.call 20 [],.fadd 0 3,.load 1 false 65,.idxV 10 2 true 64 66]++gS 5 [.alloc 52 (.agg #[oz,oz])]++[⟨none,.store 2 5 67,none⟩]
def jy3 : List GOp:=gS 6 [.mv (ci 0)]
def jw3 : List GOp:=gS 68 [.mv 6,.fadd 1 3,.load 1 false 69,.len false 70,.bin .lss 68 71]
def jv3 : List GOp:=gS 75 [.fadd 1 3,.load 1 false 75,.mv 6,.idxA 1 76 77,.load 1 false 78,.fadd 0 5,.load 1 false 80,.bin .leq 79 81,.mv 82]++gQ 83 false 84 [.fadd 1 3,.load 1 false 84,.mv 6,.idxA 1 85 86,.load 1 false 87,.fadd 1 5,.load 1 false 89,.bin .gtr 88 90]++gS 92 [.pick 83 (cB true) 91,.mv 92]++gQ 93 false 94 [.mv 6,.bin .gtr 94 (ci 0),.mv 95]++gQ 96 true 97 [.fadd 1 3,.load 1 false 97,.mv 6,.idxA 1 98 99,.load 1 false 100,.fadd 1 3,.load 1 false 102,.mv 6,.bin .sub 104 (ci 1),.idxA 1 103 105,.load 1 false 106,.bin .leq 101 107]++gQ 93 false 109 [.pick 96 108 (cB false)]++gS 110 [.pick 93 (cB true) 109]
def jk3 : List GOp:=gS 4 [.mv (cB false)]
def vv2 : List GOp:=gS 73 [.mv 6,.bin .add 73 (ci 1)]++gS 6 [.mv 74]
def vy2 : DE:=.seq (.seq (.reg jw3) (.cond 72 (.skip) (.exit 0))) (.seq (.block 1 (.join (.par true true true 33 jv3) (.cond 110 (.seq (.reg jk3) (.ret)) (.skip)))) (.reg vv2))
def vk2 : List GOp:=gS 7 [.mv (ci 0)]
def vx2 : List GOp:=gS 111 [.mv 7,.fadd 2 3,.load 1 false 112,.len false 113,.bin .lss 111 114]
def vj2 : List GOp:=gS 118 [.fadd 2 3,.load 1 false 118,.mv 7,.idxA 1 119 120,.load 1 false 121]++gS 8 [.mv 122]
def vz2 : List GOp:=gS 123 [.mv 8,.bin .lss 123 (ci 0),.mv 124]++gQ 125 false 126 [.mv 8,.fadd 0 2,.load 1 false 127,.len false 128,.bin .geq 126 129]++gS 131 [.pick 125 (cB true) 130,.mv 131]++gQ 132 false 133 [.mv 7,.bin .gtr 133 (ci 0),.mv 134]++gQ 135 true 136 [.fadd 2 3,.load 1 false 136,.mv 7,.bin .sub 138 (ci 1),.idxA 1 137 139,.load 1 false 140,.mv 8,.bin .eql 141 142]++gQ 132 false 144 [.pick 135 143 (cB false)]++gS 145 [.pick 132 (cB true) 144,.mv 145]++gQ 146 false 147 [.fadd 0 2,.load 1 false 147,.mv 8,.idxA 4 148 149,.fadd 2 150,.load 1 false 151,.len false 152,.bin .gtr 153 (ci 0),.mv 154]++gQ 155 true 156 [.fadd 0 2,.load 1 false 156,.mv 8,.idxA 4 157 158,.fadd 0 159,.load 1 false 160,.fadd 0 3,.load 1 false 162,.bin .leq 161 163]++gQ 146 false 165 [.pick 155 164 (cB false)]++gS 166 [.pick 146 (cB true) 165]
def vq2 : List GOp:=gS 4 [.mv (cB false)]
def ku2 : List GOp:=gS 116 [.mv 7,.bin .add 116 (ci 1)]++gS 7 [.mv 117]
def vw2 : DE:=.seq (.seq (.reg vx2) (.cond 115 (.skip) (.exit 2))) (.seq (.block 3 (.seq (.reg vj2) (.join (.par true true true 41 vz2) (.cond 166 (.seq (.reg vq2) (.ret)) (.skip))))) (.reg ku2))
def ko2 : List GOp:=gS 4 [.mv (cB true)]
def c42 : EFn:=⟨167,.seq (.reg jm3) (.seq (.seq (.reg jf3) (.cond 12 (.seq (.reg jh3) (.ret)) (.skip))) (.seq (.join (.reg jp3) (.cond 63 (.seq (.reg jg3) (.ret)) (.skip))) (.join (.par false false false 5 jb3) (.join (.seq (.reg jy3) (.block 0 (.loop vy2))) (.join (.seq (.reg vk2) (.block 2 (.loop vw2))) (.seq (.reg ko2) (.ret))))))),[.tmp 4]⟩
theorem vb2 : zv0 Tryz.prog 42=some c42.er:=by kernel_rfl
set_option maxHeartbeats 4000000 in
theorem te0 {P:Program}(hP:P=Tryz.prog)(t_:Table)(n:Node)(r:Bool)(h:vk0 t_ n=some r):Fn1 P 42 [uc0 t_,bz1 n] (vB r):=by
 refine .vz0 (hP▸vb2) fun K hK=>?_;unfold vk0 at h;cbv;refine qf0 h ?_ ?_<;>intro h
 ·cbv;refine qf0 h ?_ ?_<;>intro h
  ·cbv;refine qf0 h ?_ ?_<;>intro h
   ·cbv;refine qf0 h ?_ ?_<;>intro h
    ·cbv;obtain rfl:=oj h;exact hK _ _ aw_
    ·cbv;obtain rfl:=oj h;exact hK _ _ aw_
   ·cbv;obtain rfl:=oj h;exact hK _ _ aw_
  ·cbv;obtain rfl:=oj h;exact hK _ _ aw_
 ·cbv;refine .g h (fun (v1:Bool)=>[.top,.top,.ptr 0 0,.ptr 1 0]++rp 59 .top++[ob v1]++rp 103 .top) (fun v1=>[.cells [dq qk0 t_.Nodes,dq qz0 t_.Leaves] 28,.cells [oi n.Attr,dq qq0 n.Cuts,dq qq0 n.Kids,oi n.Leaf] 50]) (fun y hm Kn1 hKn1=>?_) fun t h=>?_
  ·have h:=hm;clear hm;cbv;refine qf0 h ?_ ?_<;>intro h
   ·cbv;obtain rfl:=oj h;exact hKn1 _ _ _ rfl (.nz (.mtE [0,1] mx))
   ·cbv;refine qf0 h ?_ ?_<;>intro h
    ·cbv;obtain rfl:=oj h;exact hKn1 _ _ _ rfl (.nz (.mtE [0,1] mx))
    ·cbv;refine qf0 h ?_ ?_<;>intro h
     ·cbv;obtain rfl:=oj h;exact hKn1 _ _ _ rfl (.nz (.mtE [0,1] mx))
     ·cbv;refine qf0 h ?_ ?_<;>intro h
      ·cbv;obtain rfl:=oj h;exact hKn1 _ _ _ rfl (.nz (.mtE [0,1] mx))
      ·cbv;obtain rfl:=oj h;exact hKn1 _ _ _ rfl (.nz (.mtE [0,1] mx))
  obtain⟨v1,rfl⟩:=ez t;cbv;refine qf0 h ?_ ?_<;>intro h
  ·cbv;obtain rfl:=oj h;exact hK _ _ aw_
  ·cbv;refine .g h (fun ((Lo2,Hi3):Int×Int)=>[.top,.top,.ptr 0 0,.ptr 1 0,.top,.ptr 2 0]++rp 161 .top) (fun (Lo2,Hi3)=>[.cells [dq qk0 t_.Nodes,dq qz0 t_.Leaves] 28,.cells [oi n.Attr,dq qq0 n.Cuts,dq qq0 n.Kids,oi n.Leaf] 50,.cells [oi Lo2,oi Hi3] 52]) (fun y hm Kn1 hKn1=>?_) fun t h=>?_
   ·have h:=hm;clear hm;cbv;refine .g h (fun v hv=>xo0 hP v hv) aw_ rfl (fun _=>rfl) fun v4 h=>?_;cbv
    refine .c10 h ?_ ?_ ?_ ?_ ?_ ?_ ?_ ?_ ?_ ?_<;>(
     intro hni5 h;cbv;obtain rfl:=oj h;exact hKn1 _ _ _ rfl (.nz (.mtE [0,1,2] mx))
     )
   obtain⟨Lo2,Hi3⟩:=t;cbv;refine .ga h (fun (_:Unit)=>[.top,.top,.ptr 0 0,.ptr 1 0]++rp 163 .top) (fun _=>[.cells [dq qk0 t_.Nodes,dq qz0 t_.Leaves] 28,.cells [oi n.Attr,dq qq0 n.Cuts,dq qq0 n.Kids,oi n.Leaf] 50]) (fun y hm hr1 Kn1 hKn1=>?_) fun t h=>?_
   ·have h:=hm;clear hm;cbv;refine .g h (fun (i6:Int)=>[.top,.top,.ptr 0 0,.ptr 1 0,.top,.ptr 2 0,oi i6]++rp 160 .top) (fun i6=>[.cells [dq qk0 t_.Nodes,dq qz0 t_.Leaves] 28,.cells [oi n.Attr,dq qq0 n.Cuts,dq qq0 n.Kids,oi n.Leaf] 50,.cells [oi Lo2,oi Hi3] 52]) (.nz (.mtE [0,1,2] ?_)) fun s x h hr2 Kn2 hKn2=>?_
    ·exact mx
    unfold wi0 at h;obtain⟨i6,rfl⟩:=ez s;cbv;refine qf0 h ?_ ?_<;>intro h
    ·cbv;refine .g h (fun (v7:Bool)=>[.top,.top,.ptr 0 0,.ptr 1 0,.top,.ptr 2 0,oi i6]++rp 103 .top++[ob v7]++rp 56 .top) (fun v7=>[.cells [dq qk0 t_.Nodes,dq qz0 t_.Leaves] 28,.cells [oi n.Attr,dq qq0 n.Cuts,dq qq0 n.Kids,oi n.Leaf] 50,.cells [oi Lo2,oi Hi3] 52]) (fun y hm Kn3 hKn3=>?_) fun t h=>?_
     ·have h:=hm;clear hm;cbv;refine .g h (fun _=>rfl) fun x8 h=>?_;cbv;refine qf0 h ?_ ?_<;>intro h
      ·cbv;obtain rfl:=oj h;exact hKn3 _ _ _ rfl (.nz (.mtE [0,1,2] mx))
      ·cbv;refine .g h (fun _=>rfl) fun x9 h=>?_;cbv;refine qf0 h ?_ ?_<;>intro h
       ·cbv;obtain rfl:=oj h;exact hKn3 _ _ _ rfl (.nz (.mtE [0,1,2] mx))
       ·cbv;refine qf0 h ?_ ?_<;>intro h
        ·cbv;refine .g h (fun _=>rfl) fun x10 h=>?_;cbv;refine .g h (fun _=>rfl) fun x11 h=>?_;cbv;obtain rfl:=oj h;exact hKn3 _ _ _ rfl (.nz (.mtE [0,1,2] mx))
        ·cbv;obtain rfl:=oj h;exact hKn3 _ _ _ rfl (.nz (.mtE [0,1,2] mx))
     obtain⟨v7,rfl⟩:=ez t;cbv;refine qf0 h ?_ ?_<;>intro h
     ·cbv;obtain rfl:=oj h;obtain rfl:=hr2 _ rfl;obtain rfl:=hr1 _ rfl;exact hK _ _ aw_
     ·cbv;obtain rfl:=oj h;exact hKn2 _ _ _ rfl (.nz (.mtE [0,1,2] mx))
    ·cbv;obtain rfl:=oj h;obtain rfl:=hr2 _ rfl;exact hKn1 _ _ _ rfl (.nz (.mtE [0,1] mx))
   cbv;refine .ga h (fun (_:Unit)=>rp 167 .top) (fun _=>[]) (fun y hm hr1 Kn1 hKn1=>?_) fun t h=>?_
   ·have h:=hm;clear hm;cbv;refine .g h (fun (i12:Int)=>[.top,.top,.ptr 0 0,.ptr 1 0]++rp 3 .top++[oi i12]++rp 159 .top) (fun i12=>[.cells [dq qk0 t_.Nodes,dq qz0 t_.Leaves] 28,.cells [oi n.Attr,dq qq0 n.Cuts,dq qq0 n.Kids,oi n.Leaf] 50]) (.nz (.mtE [0,1] ?_)) fun s x h hr2 Kn2 hKn2=>?_
    ·exact mx
    unfold ut0 at h;obtain⟨i12,rfl⟩:=ez s;cbv;refine qf0 h ?_ ?_<;>intro h
    ·cbv;refine .g h (fun _=>rfl) fun x13 h=>?_;cbv;refine .g h (fun (v14:Bool)=>[.top,.top,.ptr 0 0,.ptr 1 0]++rp 3 .top++[oi i12]++rp 158 .top++[ob v14]) (fun v14=>[.cells [dq qk0 t_.Nodes,dq qz0 t_.Leaves] 28,.cells [oi n.Attr,dq qq0 n.Cuts,dq qq0 n.Kids,oi n.Leaf] 50]) (fun y hm Kn3 hKn3=>?_) fun t h=>?_
     ·have h:=hm;clear hm;cbv;refine qf0 h ?_ ?_<;>intro h
      ·cbv;obtain rfl:=oj h;exact hKn3 _ _ _ rfl (.nz (.mtE [0,1] mx))
      ·cbv;refine qf0 h ?_ ?_<;>intro h
       ·cbv;obtain rfl:=oj h;exact hKn3 _ _ _ rfl (.nz (.mtE [0,1] mx))
       ·cbv;refine qf0 h ?_ ?_<;>intro h
        ·cbv;refine .g h (fun _=>rfl) fun x15 h=>?_;cbv;refine qf0 h ?_ ?_<;>intro h
         ·cbv;obtain rfl:=oj h;exact hKn3 _ _ _ rfl (.nz (.mtE [0,1] mx))
         ·cbv;refine .g h (fun _=>rfl) fun x16 h=>?_;cbv;refine qf0 h ?_ ?_<;>intro h
          ·cbv;refine .g h (fun _=>rfl) fun x17 h=>?_;cbv;obtain rfl:=oj h;exact hKn3 _ _ _ rfl (.nz (.mtE [0,1] mx))
          ·cbv;obtain rfl:=oj h;exact hKn3 _ _ _ rfl (.nz (.mtE [0,1] mx))
        ·cbv;refine .g h (fun _=>rfl) fun x18 h=>?_;cbv;refine qf0 h ?_ ?_<;>intro h
         ·cbv;refine .g h (fun _=>rfl) fun x19 h=>?_;cbv;obtain rfl:=oj h;exact hKn3 _ _ _ rfl (.nz (.mtE [0,1] mx))
         ·cbv;obtain rfl:=oj h;exact hKn3 _ _ _ rfl (.nz (.mtE [0,1] mx))
     obtain⟨v14,rfl⟩:=ez t;cbv;refine qf0 h ?_ ?_<;>intro h
     ·cbv;obtain rfl:=oj h;obtain rfl:=hr2 _ rfl;obtain rfl:=hr1 _ rfl;exact hK _ _ aw_
     ·cbv;obtain rfl:=oj h;exact hKn2 _ _ _ rfl (.nz (.mtE [0,1] mx))
    ·cbv;obtain rfl:=oj h;obtain rfl:=hr2 _ rfl;exact hKn1 _ _ _ rfl (.nz (.mtE [] mx))
   cbv;obtain rfl:=oj h;exact hK _ _ aw_
end Go.SX.Td
namespace Go.SX.Td
open Go Go.SX Go.Proofs
set_option maxRecDepth 100000
def gr3 : List GOp:=gS 1 [.box 28 0,.mv (cB false)]
def gn3 : List GOp:=gS 10 [.fadd 0 1,.load 1 false 10,.len false 11,.bin .lss 12 (ci 1),.mv 13]++gQ 14 false 15 [.fadd 0 1,.load 1 false 15,.len false 16,.bin .gtr 17 (ci 20000)]++gS 19 [.pick 14 (cB true) 18]
def gt3 : List GOp:=gS 2 [.mv (cB false)]
def gl3 : List GOp:=gS 3 [.mv (ci 0)]
def gd3 : List GOp:=gS 4 [.mv (ci 0)]
def gc3 : List GOp:=gS 20 [.mv 4,.fadd 0 1,.load 1 false 21,.len false 22,.bin .lss 20 23]
def gm3 : List GOp:=gS 27 [.load 2 true 1,.fadd 0 1,.load 1 false 28,.mv 4,.idxA 4 29 30,.load 4 true 31,.call 42 [27,32],.un .not 33]
def gf3 : List GOp:=gS 2 [.mv (cB false)]
def gh3 : List GOp:=gS 5 [.mv (ci 0)]
def gp3 : List GOp:=gS 35 [.mv 5,.mv 4,.bin .lss 35 36]
def ar2 : List GOp:=gS 40 [.fadd 0 1,.load 1 false 40,.mv 4,.idxA 4 41 42,.load 4 true 43,.fadd 0 1,.load 1 false 45,.mv 5,.idxA 4 46 47,.load 4 true 48,.call 29 [44,49]]
def an2 : List GOp:=gS 2 [.mv (cB false)]
def as2 : List GOp:=gS 38 [.mv 5,.bin .add 38 (ci 1)]++gS 5 [.mv 39]
def au2 : DE:=.seq (.seq (.reg gp3) (.cond 37 (.skip) (.exit 2))) (.seq (.block 3 (.seq (.par false true false 10 ar2) (.cond 50 (.seq (.reg an2) (.ret)) (.skip)))) (.reg as2))
def al2 : List GOp:=gS 51 [.fadd 0 1,.load 1 false 51,.mv 4,.idxA 4 52 53,.fadd 2 54,.load 1 false 55,.len false 56,.bin .eql 57 (ci 0)]
def ad2 : List GOp:=gS 59 [.fadd 0 1,.load 1 false 59,.mv 4,.idxA 4 60 61,.fadd 3 62,.load 1 false 63,.mv 3,.bin .neq 64 65]
def ac2 : List GOp:=gS 2 [.mv (cB false)]
def am2 : List GOp:=gS 67 [.mv 3,.bin .add 67 (ci 1)]++gS 3 [.mv 68]
def af2 : List GOp:=gS 25 [.mv 4,.bin .add 25 (ci 1)]++gS 4 [.mv 26]
def ao2 : DE:=.seq (.seq (.reg gc3) (.cond 24 (.skip) (.exit 0))) (.join (.block 1 (.seq (.seq (.par false false false 6 gm3) (.cond 34 (.seq (.reg gf3) (.ret)) (.skip))) (.join (.seq (.reg gh3) (.block 2 (.loop au2))) (.seq (.reg al2) (.cond 58 (.seq (.seq (.reg ad2) (.cond 66 (.seq (.reg ac2) (.ret)) (.skip))) (.reg am2)) (.skip)))))) (.reg af2))
def ah2 : List GOp:=gS 6 [.mv (ci 0)]
def ag2 : List GOp:=gS 69 [.mv 6,.fadd 1 1,.load 1 false 70,.len false 71,.bin .lss 69 72]
def ab2 : List GOp:=gS 7 [.mv (ci 0)]
def ay2 : List GOp:=gS 76 [.mv 7,.mv 6,.bin .lss 76 77]
def aw2 : List GOp:=gS 81 [.fadd 1 1,.load 1 false 81,.mv 6,.idxA 16 82 83,.load 16 true 84,.fadd 1 1,.load 1 false 86,.mv 7,.idxA 16 87 88,.load 16 true 89,.beq false [.bool,.bool,.bool,.int,.int,.int,.int,.int,.int,.int,.int,.int,.int,.int,.int,.int] 85 90]
def av2 : List GOp:=gS 2 [.mv (cB false)]
def ak2 : List GOp:=gS 79 [.mv 7,.bin .add 79 (ci 1)]++gS 7 [.mv 80]
def ai2 : DE:=.seq (.seq (.reg ay2) (.cond 78 (.skip) (.exit 6))) (.seq (.block 7 (.seq (.par true true true 10 aw2) (.cond 91 (.seq (.reg av2) (.ret)) (.skip)))) (.reg ak2))
def ax2 : List GOp:=gS 74 [.mv 6,.bin .add 74 (ci 1)]++gS 6 [.mv 75]
def ae2 : DE:=.seq (.seq (.reg ag2) (.cond 73 (.skip) (.exit 4))) (.join (.block 5 (.seq (.reg ab2) (.block 6 (.loop ai2)))) (.reg ax2))
def aj2 : List GOp:=gS 92 [.load 2 true 1,.call 38 [92,(ci 0),cn]]++gS 8 [.mv 93]
def az2 : List GOp:=gS 9 [.mv (ci 0)]
def aq2 : List GOp:=gS 94 [.mv 9,.mv 8,.len false 95,.bin .lss 94 96]
def su2 : List GOp:=gS 100 [.mv 8,.mv 9,.idxA 1 100 101,.load 1 false 102,.mv 9,.bin .neq 103 104]
def so2 : List GOp:=gS 2 [.mv (cB false)]
def si2 : List GOp:=gS 98 [.mv 9,.bin .add 98 (ci 1)]++gS 9 [.mv 99]
def aa2 : DE:=.seq (.seq (.reg aq2) (.cond 97 (.skip) (.exit 8))) (.seq (.block 9 (.seq (.reg su2) (.cond 105 (.seq (.reg so2) (.ret)) (.skip)))) (.reg si2))
def se2 : List GOp:=gS 106 [.mv 8,.len false 106,.fadd 0 1,.load 1 false 108,.len false 109,.bin .eql 107 110,.mv 111]++gQ 112 true 113 [.mv 3,.fadd 1 1,.load 1 false 114,.len false 115,.bin .eql 113 116]++gS 118 [.pick 112 117 (cB false)]++gS 2 [.mv 118]
def c16 : EFn:=⟨119,.seq (.reg gr3) (.seq (.join (.reg gn3) (.cond 19 (.seq (.reg gt3) (.ret)) (.skip))) (.seq (.reg gl3) (.join (.seq (.reg gd3) (.block 0 (.loop ao2))) (.join (.seq (.reg ah2) (.block 4 (.loop ae2))) (.join (.reg aj2) (.join (.seq (.reg az2) (.block 8 (.loop aa2))) (.seq (.reg se2) (.ret)))))))),[.tmp 2]⟩
theorem pq2 : zv0 Tryz.prog 16=some c16.er:=by kernel_rfl
set_option maxHeartbeats 4000000 in
theorem pc0 {P:Program}(hP:P=Tryz.prog)(t_:Table)(r:Bool)(h:wn0 t_=some r):Fn1 P 16 [uc0 t_] (vB r):=by
 refine .vz0 (hP▸pq2) fun K hK=>?_;unfold wn0 at h;cbv;refine .g h (fun (v1:Bool)=>[.top,.ptr 0 0]++rp 17 .top++[ob v1]++rp 99 .top) (fun v1=>[.cells [dq qk0 t_.Nodes,dq qz0 t_.Leaves] 28]) (fun y hm Kn1 hKn1=>?_) fun t h=>?_
 ·have h:=hm;clear hm;cbv;refine qf0 h ?_ ?_<;>intro h
  ·cbv;obtain rfl:=oj h;exact hKn1 _ _ _ rfl (.nz (.mtE [0] mx))
  ·cbv;obtain rfl:=oj h;exact hKn1 _ _ _ rfl (.nz (.mtE [0] mx))
 obtain⟨v1,rfl⟩:=ez t;cbv;refine qf0 h ?_ ?_<;>intro h
 ·cbv;obtain rfl:=oj h;exact hK _ _ aw_
 ·cbv;refine .ga h (fun (leaves2:Int)=>[.top,.ptr 0 0,.top,oi leaves2]++rp 115 .top) (fun leaves2=>[.cells [dq qk0 t_.Nodes,dq qz0 t_.Leaves] 28]) (fun y hm hr1 Kn1 hKn1=>?_) fun t h=>?_
  ·have h:=hm;clear hm;cbv;refine .g h (fun ((leaves3,i4):Int×Int)=>[.top,.ptr 0 0,.top,oi leaves3,oi i4]++rp 114 .top) (fun (leaves3,i4)=>[.cells [dq qk0 t_.Nodes,dq qz0 t_.Leaves] 28]) (.nz (.mtE [0] ?_)) fun s x h hr2 Kn2 hKn2=>?_
   ·exact mx
   unfold yo0 at h;obtain⟨leaves3,i4⟩:=s;cbv;refine qf0 h ?_ ?_<;>intro h
   ·cbv;refine .ga h (fun (leaves5:Int)=>[.top,.ptr 0 0,.top,oi leaves5,oi i4]++rp 114 .top) (fun leaves5=>[.cells [dq qk0 t_.Nodes,dq qz0 t_.Leaves] 28]) (fun y hm hr3 Kn3 hKn3=>?_) fun t h=>?_
    ·have h:=hm;clear hm;cbv;refine .g h (fun _=>rfl) fun x6 h=>?_;cbv;refine .g h (fun v hv=>te0 hP _ _ v hv) aw_ rfl (fun _=>rfl) fun v7 h=>?_;cbv;refine qf0 h ?_ ?_<;>intro h
     ·cbv;obtain rfl:=oj h;obtain rfl:=hr3 _ rfl;obtain rfl:=hr2 _ rfl;obtain rfl:=hr1 _ rfl;exact hK _ _ aw_
     ·cbv;refine .ga h (fun (_:Unit)=>[.top,.ptr 0 0,.top,oi leaves3,oi i4]++rp 114 .top) (fun _=>[.cells [dq qk0 t_.Nodes,dq qz0 t_.Leaves] 28]) (fun y hm hr4 Kn4 hKn4=>?_) fun t h=>?_
      ·have h:=hm;clear hm;cbv;refine .g h (fun (k8:Int)=>[.top,.ptr 0 0,.top,oi leaves3,oi i4,oi k8]++rp 113 .top) (fun k8=>[.cells [dq qk0 t_.Nodes,dq qz0 t_.Leaves] 28]) (.nz (.mtE [0] ?_)) fun s x h hr5 Kn5 hKn5=>?_
       ·exact mx
       unfold yi0 at h;obtain⟨k8,rfl⟩:=ez s;cbv;refine qf0 h ?_ ?_<;>intro h
       ·cbv;refine .g h (fun _=>rfl) fun x9 h=>?_;cbv;refine .g h (fun _=>rfl) fun x10 h=>?_;cbv;refine .g h (fun v hv=>vi0 hP _ _ v hv) aw_ rfl (fun _=>rfl) fun v11 h=>?_;cbv;refine qf0 h ?_ ?_<;>intro h
        ·cbv;obtain rfl:=oj h;obtain rfl:=hr5 _ rfl;obtain rfl:=hr4 _ rfl;obtain rfl:=hr3 _ rfl;obtain rfl:=hr2 _ rfl;obtain rfl:=hr1 _ rfl;exact hK _ _ aw_
        ·cbv;obtain rfl:=oj h;exact hKn5 _ _ _ rfl (.nz (.mtE [0] mx))
       ·cbv;obtain rfl:=oj h;obtain rfl:=hr5 _ rfl;exact hKn4 _ _ _ rfl (.nz (.mtE [0] mx))
      cbv;refine .g h (fun _=>rfl) fun x12 h=>?_;cbv;refine qf0 h ?_ ?_<;>intro h
      ·cbv;refine .g h (fun _=>rfl) fun x13 h=>?_;cbv;refine qf0 h ?_ ?_<;>intro h
       ·cbv;obtain rfl:=oj h;obtain rfl:=hr3 _ rfl;obtain rfl:=hr2 _ rfl;obtain rfl:=hr1 _ rfl;exact hK _ _ aw_
       ·cbv;obtain rfl:=oj h;exact hKn3 _ _ _ rfl (.nz (.mtE [0] mx))
      ·cbv;obtain rfl:=oj h;exact hKn3 _ _ _ rfl (.nz (.mtE [0] mx))
    obtain⟨leaves5,rfl⟩:=ez t;cbv;obtain rfl:=oj h;exact hKn2 _ _ _ rfl (.nz (.mtE [0] mx))
   ·cbv;obtain rfl:=oj h;obtain rfl:=hr2 _ rfl;exact hKn1 _ _ _ rfl (.nz (.mtE [0] mx))
  obtain⟨leaves2,rfl⟩:=ez t;cbv;refine .ga h (fun (_:Unit)=>[.top,.ptr 0 0,.top,oi leaves2]++rp 115 .top) (fun _=>[.cells [dq qk0 t_.Nodes,dq qz0 t_.Leaves] 28]) (fun y hm hr1 Kn1 hKn1=>?_) fun t h=>?_
  ·have h:=hm;clear hm;cbv;refine .g h (fun (i14:Int)=>[.top,.ptr 0 0,.top,oi leaves2,.top,.top,oi i14]++rp 112 .top) (fun i14=>[.cells [dq qk0 t_.Nodes,dq qz0 t_.Leaves] 28]) (.nz (.mtE [0] ?_)) fun s x h hr2 Kn2 hKn2=>?_
   ·exact mx
   unfold ye0 at h;obtain⟨i14,rfl⟩:=ez s;cbv;refine qf0 h ?_ ?_<;>intro h
   ·cbv;refine .ga h (fun (_:Unit)=>[.top,.ptr 0 0,.top,oi leaves2,.top,.top,oi i14]++rp 112 .top) (fun _=>[.cells [dq qk0 t_.Nodes,dq qz0 t_.Leaves] 28]) (fun y hm hr3 Kn3 hKn3=>?_) fun t h=>?_
    ·have h:=hm;clear hm;cbv;refine .g h (fun (k15:Int)=>[.top,.ptr 0 0,.top,oi leaves2,.top,.top,oi i14,oi k15]++rp 111 .top) (fun k15=>[.cells [dq qk0 t_.Nodes,dq qz0 t_.Leaves] 28]) (.nz (.mtE [0] ?_)) fun s x h hr4 Kn4 hKn4=>?_
     ·exact mx
     unfold ya0 at h;obtain⟨k15,rfl⟩:=ez s;cbv;refine qf0 h ?_ ?_<;>intro h
     ·cbv;refine .g h (fun _=>rfl) fun x16 h=>?_;cbv;refine .g h (fun _=>rfl) fun x17 h=>?_;cbv;refine qf0 h ?_ ?_<;>intro h
      ·cbv;obtain rfl:=oj h;obtain rfl:=hr4 _ rfl;obtain rfl:=hr3 _ rfl;obtain rfl:=hr2 _ rfl;obtain rfl:=hr1 _ rfl;exact hK _ _ aw_
      ·cbv;obtain rfl:=oj h;exact hKn4 _ _ _ rfl (.nz (.mtE [0] mx))
     ·cbv;obtain rfl:=oj h;obtain rfl:=hr4 _ rfl;exact hKn3 _ _ _ rfl (.nz (.mtE [0] mx))
    cbv;obtain rfl:=oj h;exact hKn2 _ _ _ rfl (.nz (.mtE [0] mx))
   ·cbv;obtain rfl:=oj h;obtain rfl:=hr2 _ rfl;exact hKn1 _ _ _ rfl (.nz (.mtE [0] mx))
  cbv;refine .g h (fun (order18:(List Int))=>[.top,.ptr 0 0,.top,oi leaves2]++rp 4 .top++[.hd 1]++rp 110 .top) (fun order18=>[.cells [dq qk0 t_.Nodes,dq qz0 t_.Leaves] 28,rA order18]) (fun y hm Kn1 hKn1=>?_) fun t h=>?_
  ·have h:=hm;clear hm;cbv;refine .inl (hP▸mz1) ?_;cbv;refine .g h (fun v hv=>sm0 hP _ _ v hv) aw_ rfl (fun _=>rfl) fun v19 h=>?_;cbv;refine qf0 h ?_ ?_<;>intro h
   ·cbv;obtain rfl:=oj h;exact hKn1 _ _ _ rfl (.zb2 8 3 1 rfl (.nz (.mtE [0,2] mx)))
   ·cbv;refine .g (e:=qq0) h (qd0 aw_ (zw0 _)) fun l20 h=>?_;cbv;refine .g0 h rfl (fun _=>rfl) (by decide) fun l21 h=>?_;cbv;refine .g h (fun (order22:(List Int))=>[.top,.top,.hd 1]++rp 37 .top) (fun order22=>[.cells [dq qk0 t_.Nodes,dq qz0 t_.Leaves] 28,rA order22]) (fun y hm Kn2 hKn2=>?_) fun t h=>?_
    ·have h:=hm;clear hm;cbv;refine .g h (fun ((order23,i24):(List Int)×Int)=>[.top,oi 0,.hd 1,.ptr 2 0]++rp 3 .top++[oi i24]++rp 32 .top) (fun (order23,i24)=>[.cells [dq qk0 t_.Nodes,dq qz0 t_.Leaves] 28,rA order23,.cells [dq qk0 t_.Nodes,dq qz0 t_.Leaves] 28]) (.nz (.mtE [0,3,1] ?_)) fun s x h hr3 Kn3 hKn3=>?_
     ·exact mx
     unfold yr0 at h;obtain⟨order23,i24⟩:=s;cbv;refine .g h (fun _=>rfl) fun x25 h=>?_;cbv;refine qf0 h ?_ ?_<;>intro h
     ·cbv;refine .g h (fun (order26:(List Int))=>[.top,oi 0,.hd 1,.ptr 2 0]++rp 3 .top++[oi i24]++rp 32 .top) (fun order26=>[.cells [dq qk0 t_.Nodes,dq qz0 t_.Leaves] 28,rA order26,.cells [dq qk0 t_.Nodes,dq qz0 t_.Leaves] 28]) (fun y hm Kn4 hKn4=>?_) fun t h=>?_
      ·have h:=hm;clear hm;cbv;refine .g h (fun _=>rfl) fun x27 h=>?_;cbv;refine .g h (fun _=>rfl) fun x28 h=>?_;cbv;obtain⟨r29,hm,h⟩:=Option.bind_eq_some_iff.1 h;refine .emb [1] (bg0 hP t_.Nodes t_.Leaves 61 _ _ _ hm) mx fun sv0 own0 hq _=>?_;obtain⟨rfl,rfl⟩:=hq;clear hm;cbv;obtain rfl:=oj h;exact hKn4 _ _ _ rfl (.nz (.mtE [0,3,2] mx))
      obtain⟨order26,rfl⟩:=ez t;cbv;obtain rfl:=oj h;exact hKn3 _ _ _ rfl (.nz (.mtE [0,1,2] mx))
     ·cbv;obtain rfl:=oj h;obtain rfl:=hr3 _ rfl;exact hKn2 _ _ _ rfl (.nz (.mtE [0,1] mx))
    obtain⟨order22,rfl⟩:=ez t;cbv;obtain rfl:=oj h;exact hKn1 _ _ _ rfl (.nz (.mtE [0,1] mx))
  obtain⟨order18,rfl⟩:=ez t;cbv;refine .ga h (fun (_:Unit)=>[.top,.ptr 0 0,.top,oi leaves2]++rp 4 .top++[.hd 1]++rp 110 .top) (fun _=>[.cells [dq qk0 t_.Nodes,dq qz0 t_.Leaves] 28,rA order18]) (fun y hm hr1 Kn1 hKn1=>?_) fun t h=>?_
  ·have h:=hm;clear hm;cbv;refine .g h (fun (i30:Int)=>[.top,.ptr 0 0,.top,oi leaves2]++rp 4 .top++[.hd 1,oi i30]++rp 109 .top) (fun i30=>[.cells [dq qk0 t_.Nodes,dq qz0 t_.Leaves] 28,rA order18]) (.nz (.mtE [0,1] ?_)) fun s x h hr2 Kn2 hKn2=>?_
   ·exact mx
   unfold yn0 at h;obtain⟨i30,rfl⟩:=ez s;cbv;refine qf0 h ?_ ?_<;>intro h
   ·cbv;refine .g h fun i31 h=>?_;cbv;refine .g h fun v32 h=>?_;cbv;refine qf0 h ?_ ?_<;>intro h
    ·cbv;obtain rfl:=oj h;obtain rfl:=hr2 _ rfl;obtain rfl:=hr1 _ rfl;exact hK _ _ aw_
    ·cbv;obtain rfl:=oj h;exact hKn2 _ _ _ rfl (.nz (.mtE [0,1] mx))
   ·cbv;obtain rfl:=oj h;obtain rfl:=hr2 _ rfl;exact hKn1 _ _ _ rfl (.nz (.mtE [0,1] mx))
  cbv;refine qf0 h ?_ ?_<;>intro h
  ·cbv;obtain rfl:=oj h;exact hK _ _ aw_
  ·cbv;obtain rfl:=oj h;exact hK _ _ aw_
end Go.SX.Td
namespace Go.SX.Td
open Go Go.SX Go.Proofs
set_option maxRecDepth 100000
noncomputable def kz0 (x4:Node)(f:(A10 Int)):Int→Option ((Int) ⊕ (Int))
 | k6 =>
 Option.bind (
 bif (io.lt k6 (io.len (W qq0 x4.Cuts))) then (
 Option.bind (zf0 x4.Cuts k6) fun x8 =>
 Option.bind (ac0 10 x4.Attr) fun i9 =>
 some (io.le x8 (f.get i9))
 ) else (
 some false
 )
 ) fun v7 =>
 bif v7 then (
 some (.inl (io.ar .add .i64 k6 1))
 ) else (
 some (.inr k6)
 )
noncomputable def kj0 (t_:Table)(f:(A10 Int)):Int→Option ((Int) ⊕ (Int))
 | at2 =>
 Option.bind (zf0 t_.Nodes at2) fun x3 =>
 bif (io.lt 0 (io.len (W qq0 x3.Kids))) then (
 Option.bind (zf0 t_.Nodes at2) fun x4 =>
 Option.bind (
 qw0 (kz0 x4 f) 0
 ) fun k5 =>
 Option.bind (zf0 x4.Kids k5) fun x10 =>
 some (.inl x10)
 ) else (
 some (.inr at2)
 )
noncomputable def gb0 (t_:Table)(f:(A10 Int)):Option (Int) :=
 Option.bind (
 qw0 (kj0 t_ f) 0
 ) fun at1 =>
 some at1
end Go.SX.Td
namespace Go.SX.Td
open Go Go.SX Go.Proofs
set_option maxRecDepth 100000
noncomputable def yg0 (t_:Table)(f:(A10 Int)):Option (Decision) :=
 Option.bind (
 Option.bind (wn0 t_) fun v2 =>
 some (io.not v2)
 ) fun v1 =>
 bif v1 then (
 some (Decision.mk false false false 0 0 (Ratio.mk 0 0) (Ratio.mk 0 0) (Ratio.mk 0 0) (Ratio.mk 0 0) (Ratio.mk 0 0) 0)
 ) else (
 Option.bind (gb0 t_ f) fun v3 =>
 Option.bind (zf0 t_.Nodes v3) fun x4 =>
 Option.bind (zf0 t_.Leaves x4.Leaf) fun x5 =>
 some x5
 )
end Go.SX.Td
namespace Go.SX.Td
open Go Go.SX Go.Proofs
set_option maxRecDepth 100000
def yd3 : List GOp:=gS 2 [.box 28 0,.box 32 1,.mv (ci 0)]
def yc3 : List GOp:=gS 5 [.mv (ci 0)]
def ym3 : List GOp:=gS 8 [.fadd 0 2,.load 1 false 8,.mv 5,.idxA 4 9 10,.fadd 2 11,.load 1 false 12,.len false 13,.bin .gtr 14 (ci 0)]
def yf3 : List GOp:=gS 16 [.fadd 0 2,.load 1 false 16,.mv 5,.idxA 4 17 18,.load 4 true 19]++gS 6 [.alloc 50 (.agg #[oz,(.slice none 0 0),(.slice none 0 0),oz])]++[⟨none,.store 4 6 20,none⟩]
def yh3 : List GOp:=gS 7 [.mv (ci 0)]
def yp3 : List GOp:=gS 21 [.mv 7,.fadd 1 6,.load 1 false 22,.len false 23,.bin .lss 21 24,.mv 25]++gQ 26 true 27 [.fadd 1 6,.load 1 false 27,.mv 7,.idxA 1 28 29,.load 1 false 30,.fadd 0 6,.load 1 false 32,.idxP 10 1 3 33,.load 1 false 34,.bin .leq 31 35]++gS 37 [.pick 26 36 (cB false)]
def yg3 : List GOp:=gS 38 [.mv 7,.bin .add 38 (ci 1)]++gS 7 [.mv 39]
def yt3 : DE:=.seq (.join (.par true true true 15 yp3) (.cond 37 (.skip) (.exit 2))) (.block 3 (.reg yg3))
def yb3 : List GOp:=gS 40 [.fadd 2 6,.load 1 false 40,.mv 7,.idxA 1 41 42,.load 1 false 43]++gS 5 [.mv 44]
def yl3 : DE:=.seq (.seq (.reg ym3) (.cond 15 (.skip) (.exit 0))) (.block 1 (.seq (.reg yf3) (.seq (.reg yh3) (.join (.block 2 (.loop yt3)) (.reg yb3)))))
def kr2 : List GOp:=gS 45 [.mv 5]++gS 4 [.mv 45]
def c45 : EFn:=⟨46,.seq (.reg yd3) (.seq (.reg yc3) (.join (.block 0 (.loop yl3)) (.seq (.reg kr2) (.ret)))),[.tmp 4]⟩
theorem ka2 : zv0 Tryz.prog 45=some c45.er:=by kernel_rfl
set_option maxHeartbeats 4000000 in
theorem zx1 {P:Program}(hP:P=Tryz.prog)(t_:Table)(f:(A10 Int))(r:Int)(h:gb0 t_ f=some r):Fn1 P 45 [uc0 t_,vn0 f] (tt0 r):=by
 refine .vz0 (hP▸ka2) fun K hK=>?_;unfold gb0 at h;cbv;refine .g h (fun (at1:Int)=>rp 5 .top++[oi at1]++rp 40 .top) (fun at1=>[]) (fun y hm Kn1 hKn1=>?_) fun t h=>?_
 ·have h:=hm;clear hm;cbv;refine .g h (fun (at2:Int)=>[.top,.top,.ptr 0 0,.ptr 1 0,.top,oi at2]++rp 40 .top) (fun at2=>[.cells [dq qk0 t_.Nodes,dq qz0 t_.Leaves] 28,.cells (ca f) 32]) (.nz (.mtE [0,1] ?_)) fun s x h hr2 Kn2 hKn2=>?_
  ·exact mx
  unfold kj0 at h;obtain⟨at2,rfl⟩:=ez s;cbv;refine .g h (fun _=>rfl) fun x3 h=>?_;cbv;refine qf0 h ?_ ?_<;>intro h
  ·cbv;refine .g h (fun _=>rfl) fun x4 h=>?_;cbv;refine .g h (fun (k5:Int)=>[.top,.top,.ptr 0 0,.ptr 1 0,.top,.top,.ptr 2 0,oi k5]++rp 38 .top) (fun k5=>[.cells [dq qk0 t_.Nodes,dq qz0 t_.Leaves] 28,.cells (ca f) 32,.cells [oi x4.Attr,dq qq0 x4.Cuts,dq qq0 x4.Kids,oi x4.Leaf] 50]) (fun y hm Kn3 hKn3=>?_) fun t h=>?_
   ·have h:=hm;clear hm;cbv;refine .g h (fun (k6:Int)=>[.top,.top,.ptr 0 0,.ptr 1 0,.top,.top,.ptr 2 0,oi k6]++rp 38 .top) (fun k6=>[.cells [dq qk0 t_.Nodes,dq qz0 t_.Leaves] 28,.cells (ca f) 32,.cells [oi x4.Attr,dq qq0 x4.Cuts,dq qq0 x4.Kids,oi x4.Leaf] 50]) (.nz (.mtE [0,1,2] ?_)) fun s x h hr4 Kn4 hKn4=>?_
    ·exact mx
    unfold kz0 at h;obtain⟨k6,rfl⟩:=ez s;cbv;refine .g h (fun (v7:Bool)=>[.top,.top,.ptr 0 0,.ptr 1 0,.top,.top,.ptr 2 0,oi k6]++rp 29 .top++[ob v7]++rp 8 .top) (fun v7=>[.cells [dq qk0 t_.Nodes,dq qz0 t_.Leaves] 28,.cells (ca f) 32,.cells [oi x4.Attr,dq qq0 x4.Cuts,dq qq0 x4.Kids,oi x4.Leaf] 50]) (fun y hm Kn5 hKn5=>?_) fun t h=>?_
    ·have h:=hm;clear hm;cbv;refine qf0 h ?_ ?_<;>intro h
     ·cbv;refine .g h (fun _=>rfl) fun x8 h=>?_;cbv
      refine .c10 h ?_ ?_ ?_ ?_ ?_ ?_ ?_ ?_ ?_ ?_<;>(
       intro hni9 h;cbv;obtain rfl:=oj h;exact hKn5 _ _ _ rfl (.nz (.mtE [0,1,2] mx))
       )
     ·cbv;obtain rfl:=oj h;exact hKn5 _ _ _ rfl (.nz (.mtE [0,1,2] mx))
    obtain⟨v7,rfl⟩:=ez t;cbv;refine qf0 h ?_ ?_<;>intro h
    ·cbv;obtain rfl:=oj h;exact hKn4 _ _ _ rfl (.nz (.mtE [0,1,2] mx))
    ·cbv;obtain rfl:=oj h;obtain rfl:=hr4 _ rfl;exact hKn3 _ _ _ rfl (.nz (.mtE [0,1,2] mx))
   obtain⟨k5,rfl⟩:=ez t;cbv;refine .g h (fun _=>rfl) fun x10 h=>?_;cbv;obtain rfl:=oj h;exact hKn2 _ _ _ rfl (.nz (.mtE [0,1] mx))
  ·cbv;obtain rfl:=oj h;obtain rfl:=hr2 _ rfl;exact hKn1 _ _ _ rfl (.nz (.mtE [] mx))
 obtain⟨at1,rfl⟩:=ez t;cbv;obtain rfl:=oj h;exact hK _ _ aw_
end Go.SX.Td
namespace Go.SX.Td
open Go Go.SX Go.Proofs
set_option maxRecDepth 100000
def hm3 : List GOp:=gS 2 [.box 28 0,.box 32 1,.alloc 44 (.agg #[(.bool false),(.bool false),(.bool false),oz,oz,oz,oz,oz,oz,oz,oz,oz,oz,oz,oz,oz])]
def uu3 : List GOp:=gS 5 [.load 2 true 2,.call 16 [5],.un .not 6]
def uo3 : List GOp:=gS 8 [.build (.agg #[(.bool false),(.bool false),(.bool false),oz,oz,oz,oz,oz,oz,oz,oz,oz,oz,oz,oz,oz]) []]++[⟨none,.store 16 4 8,none⟩]
def ui3 : List GOp:=gS 9 [.fadd 1 2,.load 1 false 9,.fadd 0 2,.load 1 false 11,.load 2 true 2,.load 10 true 3,.call 45 [13,14],.idxA 4 12 15,.fadd 3 16,.load 1 false 17]
def sm2 : List GOp:=gS 19 [.idxA 16 10 18,.load 16 true 19]++[⟨none,.store 16 4 20,none⟩]
def c18 : EFn:=⟨21,.seq (.reg hm3) (.seq (.join (.reg uu3) (.cond 7 (.seq (.reg uo3) (.ret)) (.skip))) (.seq (.sfx false false false ui3 sm2) (.ret))),[.cell 4 16 true]⟩
theorem sc2 : zv0 Tryz.prog 18=some c18.er:=by kernel_rfl
set_option maxHeartbeats 4000000 in
theorem ti0 {P:Program}(hP:P=Tryz.prog)(t_:Table)(f:(A10 Int))(r:Decision)(h:yg0 t_ f=some r):Fn1 P 18 [uc0 t_,vn0 f] (pv0 r):=by
 refine .vz0 (hP▸sc2) fun K hK=>?_;unfold yg0 at h;cbv;refine .g h (fun (v1:Bool)=>[.top,.top,.ptr 0 0,.ptr 1 0,.ptr 2 0,.top,.top,ob v1]++rp 13 .top) (fun v1=>[.cells [dq qk0 t_.Nodes,dq qz0 t_.Leaves] 28,.cells (ca f) 32,.cells dz 44]) (fun y hm Kn1 hKn1=>?_) fun t h=>?_
 ·have h:=hm;clear hm;cbv;refine .g h (fun v hv=>pc0 hP _ v hv) aw_ rfl (fun _=>rfl) fun v2 h=>?_;cbv;obtain rfl:=oj h;exact hKn1 _ _ _ rfl (.nz (.mtE [0,1,2] mx))
 obtain⟨v1,rfl⟩:=ez t;cbv;refine qf0 h ?_ ?_<;>intro h
 ·cbv;obtain rfl:=oj h;exact hK _ _ aw_
 ·cbv;refine .g h (fun v hv=>zx1 hP _ _ v hv) aw_ rfl (fun _=>rfl) fun v3 h=>?_;cbv;refine .g h (fun _=>rfl) fun x4 h=>?_;cbv;refine .g h (fun _=>rfl) fun x5 h=>?_;cbv;obtain rfl:=oj h;exact hK _ _ aw_
end Go.SX.Td
namespace Go.SX.Td
open Go Go.SX Go.Proofs
set_option maxRecDepth 100000
end Go.SX.Td
namespace Go.SX.Td
open Go Go.SX Go.Proofs
set_option maxRecDepth 100000
end Go.SX.Td
