/- Parts of the proof. -/
import Derived.Test.YtllbabjgpdmblaaGreatDoorZTdT
import Derived.Test.YtllbabjgpdmblaaGreatDoorZSyT
import Derived.Test.YtllbabjgpdmblaaGreatDoorZTd49
import Derived.Test.YtllbabjgpdmblaaGreatDoorZTd28
import Derived.Test.YtllbabjgpdmblaaGreatDoorZTzSmake
import Derived.Test.YtllbabjgpdmblaaGreatDoorZTzwnode
import Derived.Test.YtllbabjgpdmblaaGreatDoorZTd17d
import Derived.Test.YtllbabjgpdmblaaGreatDoorZTd24
set_option linter.unusedSimpArgs false
set_option linter.unusedVariables false
set_option linter.unusedSectionVars false
namespace Go.SX.Td
open Go Go.SX Go.Proofs
set_option maxRecDepth 100000
def dj3 : List GOp:=gS 1 [.box 24 0,.alloc 28 (.agg #[(.slice none 0 0),(.slice none 0 0)]),.mv (ci 0)]
def dz3 : List GOp:=gS 17 [.load 1 true 1,.call 25 [17],.un .not 18]
def dq3 : List GOp:=gS 20 [.build (.agg #[(.slice none 0 0),(.slice none 0 0)]) []]++[⟨none,.store 2 2 20,none⟩]++gS 3 [.mv (ci 1)]
def fi3 : List GOp:=gS 21 [.load 1 true 1,.build (.agg #[(.slice none 0 0),(.slice none 0 0),(.slice none 0 0),(.slice none 0 0),(.slice none 0 0),(.slice none 0 0),(.slice none 0 0),(.bool false)]) [((0,1),21)]]++gS 4 [.alloc 90 (.agg #[(.slice none 0 0),(.slice none 0 0),(.slice none 0 0),(.slice none 0 0),(.slice none 0 0),(.slice none 0 0),(.slice none 0 0),(.bool false)])]++[⟨none,.store 8 4 22,none⟩]
def fe3 : List GOp:=gS 5 [.mv cn]
def fr3 : List GOp:=gS 6 [.mv (ci 0)]
def fn3 : List GOp:=gS 23 [.mv 6,.fadd 0 1,.load 1 false 24,.len false 25,.bin .lss 23 26]
def fs3 : List GOp:=gS 7 [.mv (ci 0)]
def ft3 : List GOp:=gS 30 [.mv 7,.fadd 0 1,.load 1 false 31,.mv 6,.idxA 8 32 33,.fadd 2 34,.load 1 false 35,.len false 36,.bin .lss 30 37]
def fl3 : List GOp:=gS 41 [.mv 5,.fadd 1 4,.load 1 false 42,.len false 43,.bslice 3 1 1 oz [(0,44)],.app 3 1 8 oz 41 45]++gS 5 [.mv 46]
def mg2 : List GOp:=gS 47 [.fadd 1 4,.load 1 false 47,.fadd 0 1,.load 1 false 49,.mv 6,.idxA 8 50 51,.fadd 2 52,.load 1 false 53,.mv 7,.idxA 20 54 55,.load 20 true 56,.bslice 54 20 1 (.agg #[oz,oz,oz,oz,oz,oz,oz,oz,oz,oz,oz,oz,oz,oz,oz,oz,oz,oz,oz,oz]) [(0,57)],.app 54 20 160 (.agg #[oz,oz,oz,oz,oz,oz,oz,oz,oz,oz,oz,oz,oz,oz,oz,oz,oz,oz,oz,oz]) 48 58,.fadd 1 4]
def qk2 : GOp:=⟨none,.store 1 60 59,none⟩
def mb2 : List GOp:=gS 39 [.mv 7,.bin .add 39 (ci 1)]++gS 7 [.mv 40]
def md2 : DE:=.seq (.seq (.reg ft3) (.cond 38 (.skip) (.exit 2))) (.seq (.block 3 (.seq (.reg fl3) (.hyl true true 12 mg2 qk2))) (.reg mb2))
def my2 : List GOp:=gS 28 [.mv 6,.bin .add 28 (ci 1)]++gS 6 [.mv 29]
def mc2 : DE:=.seq (.seq (.reg fn3) (.cond 27 (.skip) (.exit 0))) (.join (.block 1 (.seq (.reg fs3) (.block 2 (.loop md2)))) (.reg my2))
def mw2 : List GOp:=gS 61 [.mv 5,.build (.agg #[oz,oz,oz,oz,oz,oz,oz,oz,oz,oz]) [],.call 37 [4,(ci 0),61,62]]++gS 8 [.mv 63]
def mx2 : List GOp:=gS 64 [.fadd 7 4,.load 1 false 64]
def mj2 : List GOp:=gS 66 [.build (.agg #[(.slice none 0 0),(.slice none 0 0)]) []]++[⟨none,.store 2 2 66,none⟩]++gS 3 [.mv (ci 3)]
def mz2 : List GOp:=gS 67 [.fadd 2 4,.load 2 true 67,.mv 8,.call 38 [68,69,cn]]++gS 9 [.mv 70]
def mq2 : List GOp:=gS 71 [.fadd 2 4,.fadd 0 71,.load 1 false 72,.len false 73,.mks 3 1 8 oz 74 74]++gS 10 [.mv 75]
def lu2 : List GOp:=gS 11 [.mv (ci 0)]
def li2 : List GOp:=gS 76 [.mv 11,.mv 9,.len false 77,.bin .lss 76 78]
def le2 : List GOp:=gS 82 [.mv 10,.mv 9,.mv 11,.idxA 1 83 84,.load 1 false 85,.mv 11,.idxA 1 82 86]++[⟨none,.store 1 88 87,none⟩]
def la2 : List GOp:=gS 80 [.mv 11,.bin .add 80 (ci 1)]++gS 11 [.mv 81]
def mm2 : DE:=.seq (.seq (.reg li2) (.cond 79 (.skip) (.exit 4))) (.seq (.block 5 (.reg le2)) (.reg la2))
def ln2 : List GOp:=gS 12 [.alloc 28 (.agg #[(.slice none 0 0),(.slice none 0 0)])]
def ls2 : List GOp:=gS 13 [.mv (ci 0)]
def lt2 : List GOp:=gS 89 [.mv 13,.mv 9,.len false 90,.bin .lss 89 91]
def ll2 : List GOp:=gS 95 [.fadd 2 4,.fadd 0 95,.load 1 false 96,.mv 9,.mv 13,.idxA 1 98 99,.load 1 false 100,.idxA 4 97 101,.load 4 true 102]++gS 14 [.alloc 50 (.agg #[oz,(.slice none 0 0),(.slice none 0 0),oz])]++[⟨none,.store 4 14 103,none⟩]
def ld2 : List GOp:=gS 15 [.mv cn]
def lc2 : List GOp:=gS 16 [.mv (ci 0)]
def lm2 : List GOp:=gS 104 [.mv 16,.fadd 2 14,.load 1 false 105,.len false 106,.bin .lss 104 107]
def lh2 : List GOp:=gS 111 [.mv 15,.mv 10,.fadd 2 14,.load 1 false 113,.mv 16,.idxA 1 114 115,.load 1 false 116,.idxA 1 112 117,.load 1 false 118,.bslice 3 1 1 oz [(0,119)],.app 3 1 8 oz 111 120]++gS 15 [.mv 121]
def lg2 : List GOp:=gS 109 [.mv 16,.bin .add 109 (ci 1)]++gS 16 [.mv 110]
def mh2 : DE:=.seq (.seq (.reg lm2) (.cond 108 (.skip) (.exit 8))) (.seq (.block 9 (.reg lh2)) (.reg lg2))
def lb2 : List GOp:=gS 122 [.mv 15,.fadd 2 14]++[⟨none,.store 1 123 122,none⟩]
def ly2 : List GOp:=gS 124 [.mv 15,.len false 124,.bin .eql 125 (ci 0)]
def lw2 : List GOp:=gS 127 [.fadd 1 12,.load 1 false 127,.fadd 2 4,.fadd 1 129,.load 1 false 130,.fadd 3 14,.load 1 false 132,.idxA 16 131 133,.load 16 true 134,.bslice 44 16 1 (.agg #[(.bool false),(.bool false),(.bool false),oz,oz,oz,oz,oz,oz,oz,oz,oz,oz,oz,oz,oz]) [(0,135)],.app 44 16 112 (.agg #[(.bool false),(.bool false),(.bool false),oz,oz,oz,oz,oz,oz,oz,oz,oz,oz,oz,oz,oz]) 128 136,.fadd 1 12]
def qx2 : GOp:=⟨none,.store 1 138 137,none⟩
def lv2 : List GOp:=gS 139 [.fadd 1 12,.load 1 false 139,.len false 140,.bin .sub 141 (ci 1),.fadd 3 14]++[⟨none,.store 1 143 142,none⟩]
def lk2 : List GOp:=gS 144 [.fadd 0 12,.load 1 false 144,.load 4 true 14,.bslice 50 4 1 (.agg #[oz,(.slice none 0 0),(.slice none 0 0),oz]) [(0,146)],.app 50 4 64 (.agg #[oz,(.slice none 0 0),(.slice none 0 0),oz]) 145 147,.fadd 0 12]++[⟨none,.store 1 149 148,none⟩]
def lx2 : List GOp:=gS 93 [.mv 13,.bin .add 93 (ci 1)]++gS 13 [.mv 94]
def mp2 : DE:=.seq (.seq (.reg lt2) (.cond 92 (.skip) (.exit 6))) (.join (.block 7 (.seq (.par true true true 10 ll2) (.seq (.reg ld2) (.join (.seq (.reg lc2) (.block 8 (.loop mh2))) (.seq (.reg lb2) (.join (.seq (.reg ly2) (.cond 126 (.seq (.hyl true true 10 lw2 qx2) (.reg lv2)) (.skip))) (.reg lk2))))))) (.reg lx2))
def lq2 : List GOp:=gS 150 [.load 2 true 12]++[⟨none,.store 2 2 150,none⟩]++gS 3 [.mv (ci 0)]
def c13 : EFn:=⟨151,.seq (.reg dj3) (.seq (.seq (.reg dz3) (.cond 19 (.seq (.reg dq3) (.ret)) (.skip))) (.seq (.reg fi3) (.seq (.reg fe3) (.join (.seq (.reg fr3) (.block 0 (.loop mc2))) (.join (.reg mw2) (.seq (.seq (.reg mx2) (.cond 65 (.seq (.reg mj2) (.ret)) (.skip))) (.join (.reg mz2) (.seq (.reg mq2) (.join (.seq (.reg lu2) (.block 4 (.loop mm2))) (.seq (.reg ln2) (.join (.seq (.reg ls2) (.block 6 (.loop mp2))) (.seq (.reg lq2) (.ret))))))))))))),[.cell 2 2 true,.tmp 3]⟩
theorem ml2 : zv0 Tryz.prog 13=some c13.er:=by kernel_rfl
set_option maxHeartbeats 4000000 in
theorem ih0 {P:Program}(hP:P=Tryz.prog)(p:Policy)(r:Table×Int)(h:jd0 p=some r):Fn1 P 13 [ud0 p] (.tup [uc0 r.1,tt0 r.2]):=by
 refine .cy1 (hP▸ml2) fun K hK=>?_;unfold jd0 at h;cbv;refine .g h (fun v hv=>if0 hP _ v hv) aw_ rfl (fun _=>rfl) fun v1 h=>?_;cbv;refine qf0 h ?_ ?_<;>intro h
 ·cbv;obtain rfl:=oj h;exact hK _ _ aw_
 ·cbv;refine .g h (fun ((Zones2,live3):(List (A10 Range))×(List Int))=>[.top,.top,.ptr 0 0,.top,.ptr 1 0,.hd 3]++rp 145 .top) (fun (Zones2,live3)=>[.cells [.d (.val (.slice none 0 0)),.d (.val (.slice none 0 0))] 28,.cells [dq qp0 p.Rules,.hd 2,.d (.val (.slice none 0 0)),.d (.val (.slice none 0 0)),.d (.val (.slice none 0 0)),.d (.val (.slice none 0 0)),.d (.val (.slice none 0 0)),ob false] 90,rE Zones2,rA live3]) (fun y hm Kn1 hKn1=>?_) fun t h=>?_
  ·have h:=hm;clear hm;cbv;refine .g h (fun ((Zones4,live5,i6):(List (A10 Range))×(List Int)×Int)=>[.top,.ptr 0 0,.ptr 1 0,.top,.ptr 2 0,.hd 4,oi i6]++rp 144 .top) (fun (Zones4,live5,i6)=>[.cells [dq qp0 p.Rules] 24,.cells [.d (.val (.slice none 0 0)),.d (.val (.slice none 0 0))] 28,.cells [dq qp0 p.Rules,.hd 3,.d (.val (.slice none 0 0)),.d (.val (.slice none 0 0)),.d (.val (.slice none 0 0)),.d (.val (.slice none 0 0)),.d (.val (.slice none 0 0)),ob false] 90,rE Zones4,rA live5]) (.yp0 2 1 54 20 _ 90 rfl rfl (.zb2 5 3 1 rfl (.nz (.mtE [0,1,2,3,4] ?_)))) fun s x h hr2 Kn2 hKn2=>?_
   ·exact mx
   unfold jk0 at h;obtain⟨Zones4,live5,i6⟩:=s;cbv;refine qf0 h ?_ ?_<;>intro h
   ·cbv;refine .g h (fun ((Zones7,live8):(List (A10 Range))×(List Int))=>[.top,.ptr 0 0,.ptr 1 0,.top,.ptr 2 0,.hd 4,oi i6]++rp 144 .top) (fun (Zones7,live8)=>[.cells [dq qp0 p.Rules] 24,.cells [.d (.val (.slice none 0 0)),.d (.val (.slice none 0 0))] 28,.cells [dq qp0 p.Rules,.hd 3,.d (.val (.slice none 0 0)),.d (.val (.slice none 0 0)),.d (.val (.slice none 0 0)),.d (.val (.slice none 0 0)),.d (.val (.slice none 0 0)),ob false] 90,rE Zones7,rA live8]) (fun y hm Kn3 hKn3=>?_) fun t h=>?_
    ·have h:=hm;clear hm;cbv;refine .g h (fun ((Zones9,live10,k11):(List (A10 Range))×(List Int)×Int)=>[.top,.ptr 0 0,.ptr 1 0,.top,.ptr 2 0,.hd 4,oi i6,oi k11]++rp 143 .top) (fun (Zones9,live10,k11)=>[.cells [dq qp0 p.Rules] 24,.cells [.d (.val (.slice none 0 0)),.d (.val (.slice none 0 0))] 28,.cells [dq qp0 p.Rules,.hd 3,.d (.val (.slice none 0 0)),.d (.val (.slice none 0 0)),.d (.val (.slice none 0 0)),.d (.val (.slice none 0 0)),.d (.val (.slice none 0 0)),ob false] 90,rE Zones9,rA live10]) (.nz (.mtE [0,1,2,3,4] ?_)) fun s x h hr4 Kn4 hKn4=>?_
     ·exact mx
     unfold jx0 at h;obtain⟨Zones9,live10,k11⟩:=s;cbv;refine .g h (fun _=>rfl) fun x12 h=>?_;cbv;refine qf0 h ?_ ?_<;>intro h
     ·cbv;refine .g (e:=qq0) h (qd0 aw_ (zw0 _)) fun l13 h=>?_;cbv;refine .g h rfl (fun _=>rfl) (by decide) fun live14 h=>?_;cbv;refine .g h (fun _=>rfl) fun x15 h=>?_;cbv;refine .g h (fun _=>rfl) fun x16 h=>?_;cbv;refine .g (e:=qj0) h (qd0 aw_ (zw0 _)) fun l17 h=>?_;cbv;refine .g h rfl (fun _=>rfl) (by decide) fun l18 h=>?_;cbv;obtain rfl:=oj h;exact hKn4 _ _ _ rfl (.nz (.mtE [0,1,2,7,6] mx))
     ·cbv;obtain rfl:=oj h;obtain rfl:=hr4 _ rfl;exact hKn3 _ _ _ rfl (.nz (.mtE [0,1,2,3,4] mx))
    obtain⟨Zones7,live8⟩:=t;cbv;obtain rfl:=oj h;exact hKn2 _ _ _ rfl (.nz (.mtE [0,1,2,3,4] mx))
   ·cbv;obtain rfl:=oj h;obtain rfl:=hr2 _ rfl;exact hKn1 _ _ _ rfl (.nz (.mtE [1,2,3,4] mx))
  obtain⟨Zones2,live3⟩:=t;cbv;refine .g h (fun ((Nodes19,Leaves20,Attr21,Live22,Made23,Full24,root25):(List Node)×(List Decision)×(List Int)×(List (List Int))×(List Int)×Bool×Int)=>[.top,.top,.ptr 0 0,.top,.ptr 1 0]++rp 3 .top++[oi root25]++rp 142 .top) (fun (Nodes19,Leaves20,Attr21,Live22,Made23,Full24,root25)=>[.cells [.d (.val (.slice none 0 0)),.d (.val (.slice none 0 0))] 28,.cells [dq qp0 p.Rules,dq qj0 Zones2,.hd 2,.hd 3,.hd 4,.hd 5,.hd 6,ob Full24] 90,rB Nodes19,rC Leaves20,rA Attr21,rD Live22,rA Made23]) (fun y hm Kn1 hKn1=>?_) fun t h=>?_
  ·have h:=hm;clear hm;cbv;refine .yp0 1 2 50 4 _ 90 rfl rfl ?_;refine .yp0 1 3 44 16 _ 90 rfl rfl ?_;refine .yp0 1 4 3 1 _ 90 rfl rfl ?_;refine .yp0 1 5 48 1 _ 90 rfl rfl ?_;refine .yp0 1 6 3 1 _ 90 rfl rfl ?_;refine .frzh [.hd 2] ?_;obtain⟨r26,hm,h⟩:=Option.bind_eq_some_iff.1 h;refine .dr1 [1,4,5,6,7,8] (qu1 hP p.Rules Zones2 11 _ _ _ _ _ _ _ _ _ _ hm) mx fun sv0 own0 hq _=>?_;obtain⟨rfl,rfl⟩:=hq;clear hm;cbv;obtain rfl:=oj h;exact hKn1 _ _ _ rfl (.nz (.mtE [0,1,9,10,11,12,13] mx))
  obtain⟨Nodes19,Leaves20,Attr21,Live22,Made23,Full24,root25⟩:=t;cbv;refine qf0 h ?_ ?_<;>intro h
  ·cbv;obtain rfl:=oj h;exact hK _ _ aw_
  ·cbv;refine .g h (fun (order27:(List Int))=>[.top,.top,.ptr 0 0,.top,.ptr 1 0]++rp 4 .top++[.hd 5]++rp 141 .top) (fun order27=>[.cells [.d (.val (.slice none 0 0)),.d (.val (.slice none 0 0))] 28,.cells [dq qp0 p.Rules,dq qj0 Zones2,dq qk0 Nodes19,dq qz0 Leaves20,.hd 2,.hd 3,.hd 4,ob Full24] 90,rA Attr21,rD Live22,rA Made23,rA order27]) (fun y hm Kn1 hKn1=>?_) fun t h=>?_
   ·have h:=hm;clear hm;cbv;refine .inl (hP▸mz1) ?_;cbv;refine .g h (fun v hv=>sm0 hP _ _ v hv) aw_ rfl (fun _=>rfl) fun v28 h=>?_;cbv;refine qf0 h ?_ ?_<;>intro h
    ·cbv;obtain rfl:=oj h;exact hKn1 _ _ _ rfl (.frz [.hd 2,.hd 3] (.zb2 9 3 1 rfl (.nz (.mtE [0,1,4,5,6,8] mx))))
    ·cbv;refine .g (e:=qq0) h (qd0 aw_ (zw0 _)) fun l29 h=>?_;cbv;refine .g0 h rfl (fun _=>rfl) (by decide) fun l30 h=>?_;cbv;refine .g h (fun (order31:(List Int))=>[.top,.top,.hd 7]++rp 37 .top) (fun order31=>[.cells [.d (.val (.slice none 0 0)),.d (.val (.slice none 0 0))] 28,.cells [dq qp0 p.Rules,dq qj0 Zones2,dq qk0 Nodes19,dq qz0 Leaves20,.hd 4,.hd 5,.hd 6,ob Full24] 90,.gone,.gone,rA Attr21,rD Live22,rA Made23,rA order31]) (fun y hm Kn2 hKn2=>?_) fun t h=>?_
     ·have h:=hm;clear hm;cbv;refine .g h (fun ((order32,i33):(List Int)×Int)=>[.top,oi root25,.hd 7,.ptr 8 0]++rp 3 .top++[oi i33]++rp 32 .top) (fun (order32,i33)=>[.cells [.d (.val (.slice none 0 0)),.d (.val (.slice none 0 0))] 28,.cells [dq qp0 p.Rules,dq qj0 Zones2,dq qk0 Nodes19,dq qz0 Leaves20,.hd 4,.hd 5,.hd 6,ob Full24] 90,.gone,.gone,rA Attr21,rD Live22,rA Made23,rA order32,.cells [dq qk0 Nodes19,dq qz0 Leaves20] 28]) (.frz [.hd 2,.hd 3,.hd 2,.hd 3] (.nz (.mtE [0,1,2,3,4,5,6,9,7] ?_))) fun s x h hr3 Kn3 hKn3=>?_
      ·exact mx
      unfold jj0 at h;obtain⟨order32,i33⟩:=s;cbv;refine .g h (fun _=>rfl) fun x34 h=>?_;cbv;refine qf0 h ?_ ?_<;>intro h
      ·cbv;refine .g h (fun (order35:(List Int))=>[.top,oi root25,.hd 7,.ptr 8 0]++rp 3 .top++[oi i33]++rp 32 .top) (fun order35=>[.cells [.d (.val (.slice none 0 0)),.d (.val (.slice none 0 0))] 28,.cells [dq qp0 p.Rules,dq qj0 Zones2,dq qk0 Nodes19,dq qz0 Leaves20,.hd 4,.hd 5,.hd 6,ob Full24] 90,.gone,.gone,rA Attr21,rD Live22,rA Made23,rA order35,.cells [dq qk0 Nodes19,dq qz0 Leaves20] 28]) (fun y hm Kn4 hKn4=>?_) fun t h=>?_
       ·have h:=hm;clear hm;cbv;refine .g h (fun _=>rfl) fun x36 h=>?_;cbv;refine .g h (fun _=>rfl) fun x37 h=>?_;cbv;obtain⟨r38,hm,h⟩:=Option.bind_eq_some_iff.1 h;refine .emb [7] (bg0 hP Nodes19 Leaves20 61 _ _ _ hm) mx fun sv0 own0 hq _=>?_;obtain⟨rfl,rfl⟩:=hq;clear hm;cbv;obtain rfl:=oj h;exact hKn4 _ _ _ rfl (.nz (.mtE [0,1,2,3,4,5,6,9,8] mx))
       obtain⟨order35,rfl⟩:=ez t;cbv;obtain rfl:=oj h;exact hKn3 _ _ _ rfl (.nz (.mtE [0,1,2,3,4,5,6,7,8] mx))
      ·cbv;obtain rfl:=oj h;obtain rfl:=hr3 _ rfl;exact hKn2 _ _ _ rfl (.nz (.mtE [0,1,2,3,4,5,6,7] mx))
     obtain⟨order31,rfl⟩:=ez t;cbv;obtain rfl:=oj h;exact hKn1 _ _ _ rfl (.nz (.mtE [0,1,4,5,6,7] mx))
   obtain⟨order27,rfl⟩:=ez t;cbv;refine .g (e:=qq0) h aw_ (by decide) fun l39 h=>?_;cbv;refine .g h (fun (number40:(List Int))=>[.top,.top,.ptr 0 0,.top,.ptr 1 0]++rp 4 .top++[.hd 5,.hd 6]++rp 140 .top) (fun number40=>[.cells [.d (.val (.slice none 0 0)),.d (.val (.slice none 0 0))] 28,.cells [dq qp0 p.Rules,dq qj0 Zones2,dq qk0 Nodes19,dq qz0 Leaves20,.hd 2,.hd 3,.hd 4,ob Full24] 90,rA Attr21,rD Live22,rA Made23,rA order27,rA number40]) (fun y hm Kn1 hKn1=>?_) fun t h=>?_
   ·have h:=hm;clear hm;cbv;refine .g h (fun ((number41,i42):(List Int)×Int)=>[.top,.top,.ptr 0 0,.top,.ptr 1 0]++rp 4 .top++[.hd 5,.hd 6,oi i42]++rp 139 .top) (fun (number41,i42)=>[.cells [.d (.val (.slice none 0 0)),.d (.val (.slice none 0 0))] 28,.cells [dq qp0 p.Rules,dq qj0 Zones2,dq qk0 Nodes19,dq qz0 Leaves20,.hd 2,.hd 3,.hd 4,ob Full24] 90,rA Attr21,rD Live22,rA Made23,rA order27,rA number41]) (.nz (.mtE [0,1,2,3,4,5,6] ?_)) fun s x h hr2 Kn2 hKn2=>?_
    ·exact mx
    unfold jz0 at h;obtain⟨number41,i42⟩:=s;cbv;refine qf0 h ?_ ?_<;>intro h
    ·cbv;refine .g h fun i43 h=>?_;cbv;refine .g h fun v44 h=>?_;cbv;refine .g h fun i45 h=>?_;cbv;refine .g h (fun _=>by first | rfl | exact xr0 _ | (cbv;simp only[ka0])) fun l47 h=>?_;cbv;obtain rfl:=oj h;exact hKn2 _ _ _ rfl (.nz (.mtE [0,1,2,3,4,5,6] mx))
    ·cbv;obtain rfl:=oj h;obtain rfl:=hr2 _ rfl;exact hKn1 _ _ _ rfl (.nz (.mtE [0,1,2,3,4,5,6] mx))
   obtain⟨number40,rfl⟩:=ez t;cbv;refine .g h (fun ((Nodes48,Leaves49):(List Node)×(List Decision))=>[.top,.top,.ptr 0 0]++rp 9 .top++[.ptr 1 0]++rp 138 .top) (fun (Nodes48,Leaves49)=>[.cells [.d (.val (.slice none 0 0)),.d (.val (.slice none 0 0))] 28,.cells [.hd 2,.hd 3] 28,rB Nodes48,rC Leaves49]) (fun y hm Kn1 hKn1=>?_) fun t h=>?_
   ·have h:=hm;clear hm;cbv;refine .g h (fun ((Nodes50,Leaves51,i52):(List Node)×(List Decision)×Int)=>[.top,.top,.ptr 0 0,.top,.ptr 1 0]++rp 4 .top++[.hd 5,.hd 6,.top,.ptr 7 0,oi i52]++rp 137 .top) (fun (Nodes50,Leaves51,i52)=>[.cells [.d (.val (.slice none 0 0)),.d (.val (.slice none 0 0))] 28,.cells [dq qp0 p.Rules,dq qj0 Zones2,dq qk0 Nodes19,dq qz0 Leaves20,.hd 2,.hd 3,.hd 4,ob Full24] 90,rA Attr21,rD Live22,rA Made23,rA order27,rA number40,.cells [.hd 8,.hd 9] 28,rB Nodes50,rC Leaves51]) (.yp0 7 0 50 4 _ 28 rfl rfl (.yp0 7 1 44 16 _ 28 rfl rfl (.nz (.mtE [0,1,2,3,4,5,6,7,8,9] ?_)))) fun s x h hr2 Kn2 hKn2=>?_
    ·exact mx
    unfold jq0 at h;obtain⟨Nodes50,Leaves51,i52⟩:=s;cbv;refine qf0 h ?_ ?_<;>intro h
    ·cbv;refine .g h (fun ((Nodes53,Leaves54):(List Node)×(List Decision))=>[.top,.top,.ptr 0 0,.top,.ptr 1 0]++rp 4 .top++[.hd 5,.hd 6,.top,.ptr 7 0,oi i52]++rp 137 .top) (fun (Nodes53,Leaves54)=>[.cells [.d (.val (.slice none 0 0)),.d (.val (.slice none 0 0))] 28,.cells [dq qp0 p.Rules,dq qj0 Zones2,dq qk0 Nodes19,dq qz0 Leaves20,.hd 2,.hd 3,.hd 4,ob Full24] 90,rA Attr21,rD Live22,rA Made23,rA order27,rA number40,.cells [.hd 8,.hd 9] 28,rB Nodes53,rC Leaves54]) (fun y hm Kn3 hKn3=>?_) fun t h=>?_
     ·have h:=hm;clear hm;cbv;refine .g h fun i55 h=>?_;cbv;refine .g h fun v56 h=>?_;cbv;refine .g h (fun _=>rfl) fun x57 h=>?_;cbv;refine .g h (fun (kids58:(List Int))=>[.top,.top,.ptr 0 0,.top,.ptr 1 0]++rp 4 .top++[.hd 5,.hd 6,.top,.ptr 7 0,oi i52,.ptr 10 0,.hd 11]++rp 135 .top) (fun kids58=>[.cells [.d (.val (.slice none 0 0)),.d (.val (.slice none 0 0))] 28,.cells [dq qp0 p.Rules,dq qj0 Zones2,dq qk0 Nodes19,dq qz0 Leaves20,.hd 2,.hd 3,.hd 4,ob Full24] 90,rA Attr21,rD Live22,rA Made23,rA order27,rA number40,.cells [.hd 8,.hd 9] 28,rB Nodes50,rC Leaves51,.cells [oi x57.Attr,dq qq0 x57.Cuts,dq qq0 x57.Kids,oi x57.Leaf] 50,rA kids58]) (fun y hm Kn4 hKn4=>?_) fun t h=>?_
      ·have h:=hm;clear hm;cbv;refine .g h (fun ((kids59,k60):(List Int)×Int)=>[.top,.top,.ptr 0 0,.top,.ptr 1 0]++rp 4 .top++[.hd 5,.hd 6,.top,.ptr 7 0,oi i52,.ptr 10 0,.hd 11,oi k60]++rp 134 .top) (fun (kids59,k60)=>[.cells [.d (.val (.slice none 0 0)),.d (.val (.slice none 0 0))] 28,.cells [dq qp0 p.Rules,dq qj0 Zones2,dq qk0 Nodes19,dq qz0 Leaves20,.hd 2,.hd 3,.hd 4,ob Full24] 90,rA Attr21,rD Live22,rA Made23,rA order27,rA number40,.cells [.hd 8,.hd 9] 28,rB Nodes50,rC Leaves51,.cells [oi x57.Attr,dq qq0 x57.Cuts,dq qq0 x57.Kids,oi x57.Leaf] 50,rA kids59]) (.zb2 15 3 1 rfl (.nz (.mtE [0,1,2,3,4,5,6,7,8,9,10,11] ?_))) fun s x h hr5 Kn5 hKn5=>?_
       ·exact mx
       unfold yu0 at h;obtain⟨kids59,k60⟩:=s;cbv;refine qf0 h ?_ ?_<;>intro h
       ·cbv;refine .g h (fun _=>rfl) fun x61 h=>?_;cbv;refine .g h fun i62 h=>?_;cbv;refine .g h fun v63 h=>?_;cbv;refine .g (e:=qq0) h (qd0 aw_ (zw0 _)) fun l64 h=>?_;cbv;refine .g h rfl (fun _=>rfl) (by decide) fun kids65 h=>?_;cbv;obtain rfl:=oj h;exact hKn5 _ _ _ rfl (.nz (.mtE [0,1,2,3,4,5,6,7,8,9,10,13] mx))
       ·cbv;obtain rfl:=oj h;obtain rfl:=hr5 _ rfl;exact hKn4 _ _ _ rfl (.nz (.mtE [0,1,2,3,4,5,6,7,8,9,10,11] mx))
      obtain⟨kids58,rfl⟩:=ez t;cbv;refine .g h (fun ((Leaves66,Leaf67):(List Decision)×Int)=>[.top,.top,.ptr 0 0,.top,.ptr 1 0]++rp 4 .top++[.hd 5,.hd 6,.top,.ptr 7 0,oi i52,.ptr 10 0]++rp 136 .top) (fun (Leaves66,Leaf67)=>[.cells [.d (.val (.slice none 0 0)),.d (.val (.slice none 0 0))] 28,.cells [dq qp0 p.Rules,dq qj0 Zones2,dq qk0 Nodes19,dq qz0 Leaves20,.hd 2,.hd 3,.hd 4,ob Full24] 90,rA Attr21,rD Live22,rA Made23,rA order27,rA number40,.cells [.hd 8,.hd 9] 28,rB Nodes50,rC Leaves66,.cells [oi x57.Attr,dq qq0 x57.Cuts,.hd 11,oi Leaf67] 50,rA kids58]) (fun y hm Kn4 hKn4=>?_) fun t h=>?_
      ·have h:=hm;clear hm;cbv;refine qf0 h ?_ ?_<;>intro h
       ·cbv;refine .g h (fun _=>rfl) fun x68 h=>?_;cbv;refine .g (e:=qz0) h (qd0 aw_ (zw0 _)) fun l69 h=>?_;cbv;refine .g h rfl (fun _=>rfl) (by decide) fun l70 h=>?_;cbv;obtain rfl:=oj h;exact hKn4 _ _ _ rfl (.nz (.mtE [0,1,2,3,4,5,6,7,8,12,10,11] mx))
       ·cbv;obtain rfl:=oj h;exact hKn4 _ _ _ rfl (.nz (.mtE [0,1,2,3,4,5,6,7,8,9,10,11] mx))
      obtain⟨Leaves66,Leaf67⟩:=t;cbv;refine .g (e:=qk0) h (qd0 aw_ (zw0 _)) fun l71 h=>?_;cbv;refine .g h rfl (fun _=>rfl) (by decide) fun l72 h=>?_;cbv;obtain rfl:=oj h;exact hKn3 _ _ _ rfl (.nz (.mtE [0,1,2,3,4,5,6,7,13,9] mx))
     obtain⟨Nodes53,Leaves54⟩:=t;cbv;obtain rfl:=oj h;exact hKn2 _ _ _ rfl (.nz (.mtE [0,1,2,3,4,5,6,7,8,9] mx))
    ·cbv;obtain rfl:=oj h;obtain rfl:=hr2 _ rfl;exact hKn1 _ _ _ rfl (.nz (.mtE [0,7,8,9] mx))
   obtain⟨Nodes48,Leaves49⟩:=t;cbv;obtain rfl:=oj h;exact hK _ _ aw_
end Go.SX.Td
namespace Go.SX.Td
open Go Go.SX Go.Proofs
set_option maxRecDepth 100000
def c4r0 : List GOp:=gS 3 [.box 24 0,.box 28 1,.box 32 2,.mv (cB false)]
def c4r1 : List GOp:=gS 12 [.call 9 []]++gS 7 [.mv 12]
def c4r2 : List GOp:=gS 13 [.load 1 true 3,.call 10 [13],.un .not 14,.mv 15]++gQ 16 false 17 [.load 2 true 4,.call 11 [17],.un .not 18]++gS 20 [.pick 16 (cB true) 19]
def c4r3 : List GOp:=gS 21 [.mv 7]++gS 6 [.mv 21]
def c4r4 : List GOp:=gS 23 [.load 1 true 3,.call 12 [23]]++gS 22 [.mv 24]++gS 25 [.ext 22 0,.ext 22 1]++gS 8 [.alloc 28 (.agg #[(.slice none 0 0),(.slice none 0 0)])]++[⟨none,.store 2 8 25,none⟩]++gS 9 [.mv 26]
def c4r5 : List GOp:=gS 28 [.load 1 true 3,.call 13 [28]]++gS 27 [.mv 29]++gS 30 [.ext 27 0,.ext 27 1]++gS 10 [.alloc 28 (.agg #[(.slice none 0 0),(.slice none 0 0)])]++[⟨none,.store 2 10 30,none⟩]++gS 11 [.mv 31]
def c4r6 : List GOp:=gS 32 [.mv 7,.mv 32]++gQ 33 true 34 [.mv 9,.mv 11,.bin .eql 34 35]++gS 37 [.pick 33 36 (cB false),.mv 37]++gQ 38 true 39 [.load 2 true 8,.load 2 true 10,.call 14 [39,40]]++gS 42 [.pick 38 41 (cB false),.mv 42]++gQ 43 true 44 [.load 2 true 4,.call 15 [44],.load 2 true 4,.call 16 [46],.beq false [] 45 47]++gS 49 [.pick 43 48 (cB false),.mv 49]++gQ 50 true 51 [.load 2 true 4,.load 10 true 5,.call 17 [51,52],.load 2 true 4,.load 10 true 5,.call 18 [54,55],.beq false [.bool,.bool,.bool,.int,.int,.int,.int,.int,.int,.int,.int,.int,.int,.int,.int,.int] 53 56]++gS 58 [.pick 50 57 (cB false)]++gS 6 [.mv 58]
def c4 : EFn:=⟨59,.seq (.reg c4r0) (.seq (.reg c4r1) (.seq (.join (.reg c4r2) (.cond 20 (.seq (.reg c4r3) (.ret)) (.skip))) (.seq (.reg c4r4) (.seq (.reg c4r5) (.seq (.par false false false 24 c4r6) (.ret)))))),[.tmp 6]⟩
theorem wm3 : zv0 Tryz.prog 4=some c4.er:=by kernel_rfl
set_option maxHeartbeats 4000000 in
theorem uw0 {P:Program}(hP:P=Tryz.prog)(p:Policy)(t_:Table)(f:(A10 Int))(r:Bool)(h:zu0 p t_ f=some r):Fn1 P 4 [ud0 p,uc0 t_,vn0 f] (vB r):=by
 refine .vz0 (hP▸wm3) fun K hK=>?_;unfold zu0 at h;cbv;refine .g h (fun v hv=>zr1 hP v hv) aw_ rfl (fun _=>rfl) fun up1 h=>?_;cbv;refine .g h (fun (v2:Bool)=>rp 3 .top++[.ptr 0 0,.ptr 1 0,.ptr 2 0,.top,ob up1]++rp 12 .top++[ob v2]++rp 38 .top) (fun v2=>[.cells [dq qp0 p.Rules] 24,.cells [dq qk0 t_.Nodes,dq qz0 t_.Leaves] 28,.cells (ca f) 32]) (fun y hm Kn1 hKn1=>?_) fun t h=>?_
 ·have h:=hm;clear hm;cbv;refine .g h (fun v hv=>jw1 hP _ v hv) aw_ rfl (fun _=>rfl) fun v3 h=>?_;cbv;refine qf0 h ?_ ?_<;>intro h
  ·cbv;obtain rfl:=oj h;exact hKn1 _ _ _ rfl (.nz (.mtE [0,1,2] mx))
  ·cbv;refine .g h (fun v hv=>ip0 hP _ v hv) aw_ rfl (fun _=>rfl) fun v4 h=>?_;cbv;obtain rfl:=oj h;exact hKn1 _ _ _ rfl (.nz (.mtE [0,1,2] mx))
 obtain⟨v2,rfl⟩:=ez t;cbv;refine qf0 h ?_ ?_<;>intro h
 ·cbv;obtain rfl:=oj h;exact hK _ _ aw_
 ·cbv;refine .g h (fun v hv=>ke0 hP _ v hv) aw_ rfl (fun _=>rfl) fun v5 h=>?_;cbv;refine .g h (fun v hv=>ih0 hP _ v hv) aw_ rfl (fun _=>rfl) fun v6 h=>?_;cbv;refine qf0 h ?_ ?_<;>intro h
  ·cbv;refine qf0 h ?_ ?_<;>intro h
   ·cbv;refine .g h (fun v hv=>zj1 hP _ _ v hv) aw_ rfl (fun _=>rfl) fun v7 h=>?_;cbv;refine qf0 h ?_ ?_<;>intro h
    ·cbv;refine .g h (fun v hv=>uy0 hP _ v hv) aw_ rfl (fun _=>rfl) fun v8 h=>?_;cbv;refine .g h (fun v hv=>pc0 hP _ v hv) aw_ rfl (fun _=>rfl) fun v9 h=>?_;cbv;refine qf0 h ?_ ?_<;>intro h
     ·cbv;refine .g h (fun v hv=>gl0 hP _ _ v hv) aw_ rfl (fun _=>rfl) fun v10 h=>?_;cbv;refine .g h (fun v hv=>ti0 hP _ _ v hv) aw_ rfl (fun _=>rfl) fun v11 h=>?_;cbv;obtain rfl:=oj h;exact hK _ _ aw_
     ·cbv;obtain rfl:=oj h;exact hK _ _ aw_
    ·cbv;obtain rfl:=oj h;exact hK _ _ aw_
   ·cbv;obtain rfl:=oj h;exact hK _ _ aw_
  ·cbv;obtain rfl:=oj h;exact hK _ _ aw_
end Go.SX.Td
