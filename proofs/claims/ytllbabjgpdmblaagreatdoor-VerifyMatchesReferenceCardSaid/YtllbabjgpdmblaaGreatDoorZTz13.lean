/- Parts of the proof. -/
import Derived.Test.YtllbabjgpdmblaaGreatDoorZTdT
import Derived.Test.YtllbabjgpdmblaaGreatDoorZSyT
import Derived.Test.YtllbabjgpdmblaaGreatDoorZTd49
import Derived.Test.YtllbabjgpdmblaaGreatDoorZTz56
import Derived.Test.YtllbabjgpdmblaaGreatDoorZTzSmake
import Derived.Test.YtllbabjgpdmblaaGreatDoorZTzwnode
import Derived.Test.YtllbabjgpdmblaaGreatDoorZTzL1
import Derived.Test.YtllbabjgpdmblaaGreatDoorZTzL5
import Derived.Test.YtllbabjgpdmblaaGreatDoorZTzP8
import Derived.Deep.OwnRows
import Derived.Test.YtllbabjgpdmblaaGreatDoorZTd17d
import Derived.Test.YtllbabjgpdmblaaGreatDoorZTdSdiff
set_option linter.unusedSimpArgs false
set_option linter.unusedVariables false
set_option linter.unusedSectionVars false
namespace Go.SX.Td
open Go Go.SX Go.Proofs
set_option maxRecDepth 100000
def mp3 : List ah:=gS 1 [.box 24 0,.alloc 28 (.agg #[(.slice none 0 0),(.slice none 0 0)]),.mv (ci 0)]
def mg3 : List ah:=gS 17 [.load 1 true 1,.call 25 [17],.un .not 18]
def mb3 : List ah:=gS 20 [.build (.agg #[(.slice none 0 0),(.slice none 0 0)]) []]++[⟨none,.store 2 2 20,none⟩]++gS 3 [.mv (ci 1)]
def my3 : List ah:=gS 21 [.load 1 true 1,.build (.agg #[(.slice none 0 0),(.slice none 0 0),(.slice none 0 0),(.slice none 0 0),(.slice none 0 0),(.slice none 0 0),(.slice none 0 0),(.bool false)]) [((0,1),21)]]++gS 4 [.alloc 90 (.agg #[(.slice none 0 0),(.slice none 0 0),(.slice none 0 0),(.slice none 0 0),(.slice none 0 0),(.slice none 0 0),(.slice none 0 0),(.bool false)])]++[⟨none,.store 8 4 22,none⟩]
def mw3 : List ah:=gS 5 [.mv cn]
def mx3 : List ah:=gS 6 [.mv (ci 0)]
def mj3 : List ah:=gS 23 [.mv 6,.aj 0 1,.load 1 false 24,.len false 25,.bin .lss 23 26]
def mz3 : List ah:=gS 7 [.mv (ci 0)]
def mq3 : List ah:=gS 30 [.mv 7,.aj 0 1,.load 1 false 31,.mv 6,.aQ 8 32 33,.aj 2 34,.load 1 false 35,.len false 36,.bin .lss 30 37]
def lu3 : List ah:=gS 41 [.mv 5,.aj 1 4,.load 1 false 42,.len false 43,.aU 3 1 1 oz [(0,44)],.app 3 1 8 oz 41 45]++gS 5 [.mv 46]
def cl2 : List ah:=gS 47 [.aj 1 4,.load 1 false 47,.aj 0 1,.load 1 false 49,.mv 6,.aQ 8 50 51,.aj 2 52,.load 1 false 53,.mv 7,.aQ 20 54 55,.load 20 true 56,.aU 54 20 1 (.agg #[oz,oz,oz,oz,oz,oz,oz,oz,oz,oz,oz,oz,oz,oz,oz,oz,oz,oz,oz,oz]) [(0,57)],.app 54 20 160 (.agg #[oz,oz,oz,oz,oz,oz,oz,oz,oz,oz,oz,oz,oz,oz,oz,oz,oz,oz,oz,oz]) 48 58,.aj 1 4]
def vw2 : ah:=⟨none,.store 1 60 59,none⟩
def cd2 : List ah:=gS 39 [.mv 7,.bin .add 39 (ci 1)]++gS 7 [.mv 40]
def ci2 : DE:=.seq (.seq (.reg mq3) (.cond 38 (.skip) (.exit 2))) (.seq (.block 3 (.seq (.reg lu3) (.hyl true true 12 cl2 vw2))) (.reg cd2))
def cc2 : List ah:=gS 28 [.mv 6,.bin .add 28 (ci 1)]++gS 6 [.mv 29]
def ce2 : DE:=.seq (.seq (.reg mj3) (.cond 27 (.skip) (.exit 0))) (.join (.block 1 (.seq (.reg mz3) (.block 2 (.loop ci2)))) (.reg cc2))
def cm2 : List ah:=gS 61 [.mv 5,.build (.agg #[oz,oz,oz,oz,oz,oz,oz,oz,oz,oz]) [],.call 37 [4,(ci 0),61,62]]++gS 8 [.mv 63]
def cf2 : List ah:=gS 64 [.aj 7 4,.load 1 false 64]
def ch2 : List ah:=gS 66 [.build (.agg #[(.slice none 0 0),(.slice none 0 0)]) []]++[⟨none,.store 2 2 66,none⟩]++gS 3 [.mv (ci 3)]
def cg2 : List ah:=gS 67 [.aj 2 4,.load 2 true 67,.mv 8,.call 38 [68,69,cn]]++gS 9 [.mv 70]
def cy2 : List ah:=gS 71 [.aj 2 4,.aj 0 71,.load 1 false 72,.len false 73,.Pq 3 1 8 oz 74 74]++gS 10 [.mv 75]
def cw2 : List ah:=gS 11 [.mv (ci 0)]
def cv2 : List ah:=gS 76 [.mv 11,.mv 9,.len false 77,.bin .lss 76 78]
def cx2 : List ah:=gS 82 [.mv 10,.mv 9,.mv 11,.aQ 1 83 84,.load 1 false 85,.mv 11,.aQ 1 82 86]++[⟨none,.store 1 88 87,none⟩]
def cz2 : List ah:=gS 80 [.mv 11,.bin .add 80 (ci 1)]++gS 11 [.mv 81]
def cr2 : DE:=.seq (.seq (.reg cv2) (.cond 79 (.skip) (.exit 4))) (.seq (.block 5 (.reg cx2)) (.reg cz2))
def cq2 : List ah:=gS 12 [.alloc 28 (.agg #[(.slice none 0 0),(.slice none 0 0)])]
def tu2 : List ah:=gS 13 [.mv (ci 0)]
def to2 : List ah:=gS 89 [.mv 13,.mv 9,.len false 90,.bin .lss 89 91]
def te2 : List ah:=gS 95 [.aj 2 4,.aj 0 95,.load 1 false 96,.mv 9,.mv 13,.aQ 1 98 99,.load 1 false 100,.aQ 4 97 101,.load 4 true 102]++gS 14 [.alloc 50 (.agg #[oz,(.slice none 0 0),(.slice none 0 0),oz])]++[⟨none,.store 4 14 103,none⟩]
def tn2 : List ah:=gS 15 [.mv cn]
def ts2 : List ah:=gS 16 [.mv (ci 0)]
def tt2 : List ah:=gS 104 [.mv 16,.aj 2 14,.load 1 false 105,.len false 106,.bin .lss 104 107]
def tl2 : List ah:=gS 111 [.mv 15,.mv 10,.aj 2 14,.load 1 false 113,.mv 16,.aQ 1 114 115,.load 1 false 116,.aQ 1 112 117,.load 1 false 118,.aU 3 1 1 oz [(0,119)],.app 3 1 8 oz 111 120]++gS 15 [.mv 121]
def td2 : List ah:=gS 109 [.mv 16,.bin .add 109 (ci 1)]++gS 16 [.mv 110]
def cn2 : DE:=.seq (.seq (.reg tt2) (.cond 108 (.skip) (.exit 8))) (.seq (.block 9 (.reg tl2)) (.reg td2))
def tc2 : List ah:=gS 122 [.mv 15,.aj 2 14]++[⟨none,.store 1 123 122,none⟩]
def tm2 : List ah:=gS 124 [.mv 15,.len false 124,.bin .eql 125 (ci 0)]
def tf2 : List ah:=gS 127 [.aj 1 12,.load 1 false 127,.aj 2 4,.aj 1 129,.load 1 false 130,.aj 3 14,.load 1 false 132,.aQ 16 131 133,.load 16 true 134,.aU 44 16 1 (.agg #[(.bool false),(.bool false),(.bool false),oz,oz,oz,oz,oz,oz,oz,oz,oz,oz,oz,oz,oz]) [(0,135)],.app 44 16 112 (.agg #[(.bool false),(.bool false),(.bool false),oz,oz,oz,oz,oz,oz,oz,oz,oz,oz,oz,oz,oz]) 128 136,.aj 1 12]
def vv2 : ah:=⟨none,.store 1 138 137,none⟩
def th2 : List ah:=gS 139 [.aj 1 12,.load 1 false 139,.len false 140,.bin .sub 141 (ci 1),.aj 3 14]++[⟨none,.store 1 143 142,none⟩]
def tp2 : List ah:=gS 144 [.aj 0 12,.load 1 false 144,.load 4 true 14,.aU 50 4 1 (.agg #[oz,(.slice none 0 0),(.slice none 0 0),oz]) [(0,146)],.app 50 4 64 (.agg #[oz,(.slice none 0 0),(.slice none 0 0),oz]) 145 147,.aj 0 12]++[⟨none,.store 1 149 148,none⟩]
def tg2 : List ah:=gS 93 [.mv 13,.bin .add 93 (ci 1)]++gS 13 [.mv 94]
def ct2 : DE:=.seq (.seq (.reg to2) (.cond 92 (.skip) (.exit 6))) (.join (.block 7 (.seq (.par true true true 10 te2) (.seq (.reg tn2) (.join (.seq (.reg ts2) (.block 8 (.loop cn2))) (.seq (.reg tc2) (.join (.seq (.reg tm2) (.cond 126 (.seq (.hyl true true 10 tf2 vv2) (.reg th2)) (.skip))) (.reg tp2))))))) (.reg tg2))
def tw2 : List ah:=gS 150 [.load 2 true 12]++[⟨none,.store 2 2 150,none⟩]++gS 3 [.mv (ci 0)]
def c13 : fJ:=⟨151,.seq (.reg mp3) (.seq (.seq (.reg mg3) (.cond 19 (.seq (.reg mb3) (.ret)) (.skip))) (.seq (.reg my3) (.seq (.reg mw3) (.join (.seq (.reg mx3) (.block 0 (.loop ce2))) (.join (.reg cm2) (.seq (.seq (.reg cf2) (.cond 65 (.seq (.reg ch2) (.ret)) (.skip))) (.join (.reg cg2) (.seq (.reg cy2) (.join (.seq (.reg cw2) (.block 4 (.loop cr2))) (.seq (.reg cq2) (.join (.seq (.reg tu2) (.block 6 (.loop ct2))) (.seq (.reg tw2) (.ret))))))))))))),[.cell 2 2 true,.tmp 3]⟩
theorem co2 : fD Tryz.prog 13=some c13.er:=by kernel_rfl
set_option maxHeartbeats 4000000 in
theorem qd1 {P:Program}(hP:P=Tryz.prog)(p:au)(r:Table×Int)(h:Je p=some r):Fn1 P 13 [BA p] (.dO [BR r.1,G8 r.2]):=by
 refine .uq2 (hP▸co2) fun K hK=>?_;unfold Je at h;cbv;refine .g h (fun v hv=>lw0 hP _ v hv) aJ rfl (fun _=>rfl) fun v1 h=>?_;cbv;refine aG h ?_ ?_<;>intro h
 ·cbv;obtain rfl:=oj h;exact hK _ _ aJ
 ·cbv;refine .g h (fun ((fH,yx):(List (aF Range))×(List Int))=>[.top,.top,.ptr 0 0,.top,.ptr 1 0,.hd 3]++rp 145 .top) (fun (fH,yx)=>[.cells [.d (.val (.slice none 0 0)),.d (.val (.slice none 0 0))] 28,.cells [dq aZ p.Rules,.hd 2,.d (.val (.slice none 0 0)),.d (.val (.slice none 0 0)),.d (.val (.slice none 0 0)),.d (.val (.slice none 0 0)),.d (.val (.slice none 0 0)),ob false] 90,.row 54 20 (W dD fH),rC yx]) (fun y hm Kn1 aC=>?_) fun t h=>?_
  ·have h:=hm;clear hm;cbv;refine .g h (fun ((rJ,wJ,i6):(List (aF Range))×(List Int)×Int)=>[.top,.ptr 0 0,.ptr 1 0,.top,.ptr 2 0,.hd 4,oi i6]++rp 144 .top) (fun (rJ,wJ,i6)=>[.cells [dq aZ p.Rules] 24,.cells [.d (.val (.slice none 0 0)),.d (.val (.slice none 0 0))] 28,.cells [dq aZ p.Rules,.hd 3,.d (.val (.slice none 0 0)),.d (.val (.slice none 0 0)),.d (.val (.slice none 0 0)),.d (.val (.slice none 0 0)),.d (.val (.slice none 0 0)),ob false] 90,.row 54 20 (W dD rJ),rC wJ]) (.DF 2 1 54 20 _ 90 rfl rfl (.Mc 5 3 1 rfl (.nz (.aB [0,1,2,3,4] ?_)))) fun s x h hr2 Kn2 bg=>?_
   ·exact mx
   unfold P5 at h;obtain⟨rJ,wJ,i6⟩:=s;cbv;refine aG h ?_ ?_<;>intro h
   ·cbv;refine .g h (fun ((uS,yw):(List (aF Range))×(List Int))=>[.top,.ptr 0 0,.ptr 1 0,.top,.ptr 2 0,.hd 4,oi i6]++rp 144 .top) (fun (uS,yw)=>[.cells [dq aZ p.Rules] 24,.cells [.d (.val (.slice none 0 0)),.d (.val (.slice none 0 0))] 28,.cells [dq aZ p.Rules,.hd 3,.d (.val (.slice none 0 0)),.d (.val (.slice none 0 0)),.d (.val (.slice none 0 0)),.d (.val (.slice none 0 0)),.d (.val (.slice none 0 0)),ob false] 90,.row 54 20 (W dD uS),rC yw]) (fun y hm Kn3 aP=>?_) fun t h=>?_
    ·have h:=hm;clear hm;cbv;refine .g h (fun ((nS,qw,k11):(List (aF Range))×(List Int)×Int)=>[.top,.ptr 0 0,.ptr 1 0,.top,.ptr 2 0,.hd 4,oi i6,oi k11]++rp 143 .top) (fun (nS,qw,k11)=>[.cells [dq aZ p.Rules] 24,.cells [.d (.val (.slice none 0 0)),.d (.val (.slice none 0 0))] 28,.cells [dq aZ p.Rules,.hd 3,.d (.val (.slice none 0 0)),.d (.val (.slice none 0 0)),.d (.val (.slice none 0 0)),.d (.val (.slice none 0 0)),.d (.val (.slice none 0 0)),ob false] 90,.row 54 20 (W dD nS),rC qw]) (.nz (.aB [0,1,2,3,4] ?_)) fun s x h hr4 ku aY=>?_
     ·exact mx
     unfold PV at h;obtain⟨nS,qw,k11⟩:=s;cbv;refine .g h (fun _=>rfl) fun x12 h=>?_;cbv;refine aG h ?_ ?_<;>intro h
     ·cbv;refine .g (e:=aH) h (gU aJ (jP _)) fun SK h=>?_;cbv;refine .g h rfl (fun _=>rfl) (by decide) fun Ey h=>?_;cbv;refine .g h (fun _=>rfl) fun x15 h=>?_;cbv;refine .g h (fun _=>rfl) fun x16 h=>?_;cbv;refine .g (e:=dD) h (gU aJ (jP _)) fun l17 h=>?_;cbv;refine .g h rfl (fun _=>rfl) (by decide) fun JM h=>?_;cbv;obtain rfl:=oj h;exact aY _ _ _ rfl (.nz (.aB [0,1,2,7,6] mx))
     ·cbv;obtain rfl:=oj h;obtain rfl:=hr4 _ rfl;exact aP _ _ _ rfl (.nz (.aB [0,1,2,3,4] mx))
    obtain⟨uS,yw⟩:=t;cbv;obtain rfl:=oj h;exact bg _ _ _ rfl (.nz (.aB [0,1,2,3,4] mx))
   ·cbv;obtain rfl:=oj h;obtain rfl:=hr2 _ rfl;exact aC _ _ _ rfl (.nz (.aB [1,2,3,4] mx))
  obtain⟨fH,yx⟩:=t;cbv;refine .g h (fun ((bQ,bK,gX,gW,gV,gy,jl):(List Node)×(List Decision)×(List Int)×(List (List Int))×(List Int)×Bool×Int)=>[.top,.top,.ptr 0 0,.top,.ptr 1 0]++rp 3 .top++[oi jl]++rp 142 .top) (fun (bQ,bK,gX,gW,gV,gy,jl)=>[.cells [.d (.val (.slice none 0 0)),.d (.val (.slice none 0 0))] 28,.cells [dq aZ p.Rules,dq dD fH,.hd 2,.hd 3,.hd 4,.hd 5,.hd 6,ob gy] 90,rE bQ,rF bK,rC gX,rD gW,rC gV]) (fun y hm Kn1 aC=>?_) fun t h=>?_
  ·have h:=hm;clear hm;cbv;refine .DF 1 2 50 4 _ 90 rfl rfl ?_;refine .DF 1 3 44 16 _ 90 rfl rfl ?_;refine .DF 1 4 3 1 _ 90 rfl rfl ?_;refine .DF 1 5 48 1 _ 90 rfl rfl ?_;refine .DF 1 6 3 1 _ 90 rfl rfl ?_;refine .frzh [.hd 2] ?_;obtain⟨Jy,hm,h⟩:=Option.bind_eq_some_iff.1 h;refine .DL [1,4,5,6,7,8] (ym1 hP p.Rules fH 11 _ _ _ _ _ _ _ _ _ _ hm) mx fun sv0 dG hq _=>?_;obtain⟨rfl,rfl⟩:=hq;clear hm;cbv;obtain rfl:=oj h;exact aC _ _ _ rfl (.nz (.aB [0,1,9,10,11,12,13] mx))
  obtain⟨bQ,bK,gX,gW,gV,gy,jl⟩:=t;cbv;refine aG h ?_ ?_<;>intro h
  ·cbv;obtain rfl:=oj h;exact hK _ _ aJ
  ·cbv;refine .g h (fun (dN:(List Int))=>[.top,.top,.ptr 0 0,.top,.ptr 1 0]++rp 4 .top++[.hd 5]++rp 141 .top) (fun dN=>[.cells [.d (.val (.slice none 0 0)),.d (.val (.slice none 0 0))] 28,.cells [dq aZ p.Rules,dq dD fH,dq bC bQ,dq bJ bK,.hd 2,.hd 3,.hd 4,ob gy] 90,rC gX,rD gW,rC gV,rC dN]) (fun y hm Kn1 aC=>?_) fun t h=>?_
   ·have h:=hm;clear hm;cbv;refine .inl (hP▸ZF) ?_;cbv;refine .g h (fun v hv=>WJ hP _ _ v hv) aJ rfl (fun _=>rfl) fun v28 h=>?_;cbv;refine aG h ?_ ?_<;>intro h
    ·cbv;obtain rfl:=oj h;exact aC _ _ _ rfl (.ng [.hd 2,.hd 3] (.Mc 9 3 1 rfl (.nz (.aB [0,1,4,5,6,8] mx))))
    ·cbv;refine .g (e:=aH) h (gU aJ (jP _)) fun l29 h=>?_;cbv;refine .g0 h rfl (fun _=>rfl) (by decide) fun SG h=>?_;cbv;refine .g h (fun (oG:(List Int))=>[.top,.top,.hd 7]++rp 37 .top) (fun oG=>[.cells [.d (.val (.slice none 0 0)),.d (.val (.slice none 0 0))] 28,.cells [dq aZ p.Rules,dq dD fH,dq bC bQ,dq bJ bK,.hd 4,.hd 5,.hd 6,ob gy] 90,.gone,.gone,rC gX,rD gW,rC gV,rC oG]) (fun y hm Kn2 bg=>?_) fun t h=>?_
     ·have h:=hm;clear hm;cbv;refine .g h (fun ((mM,i33):(List Int)×Int)=>[.top,oi jl,.hd 7,.ptr 8 0]++rp 3 .top++[oi i33]++rp 32 .top) (fun (mM,i33)=>[.cells [.d (.val (.slice none 0 0)),.d (.val (.slice none 0 0))] 28,.cells [dq aZ p.Rules,dq dD fH,dq bC bQ,dq bJ bK,.hd 4,.hd 5,.hd 6,ob gy] 90,.gone,.gone,rC gX,rD gW,rC gV,rC mM,.cells [dq bC bQ,dq bJ bK] 28]) (.ng [.hd 2,.hd 3,.hd 2,.hd 3] (.nz (.aB [0,1,2,3,4,5,6,9,7] ?_))) fun s x h hr3 Kn3 aP=>?_
      ·exact mx
      unfold P6 at h;obtain⟨mM,i33⟩:=s;cbv;refine .g h (fun _=>rfl) fun x34 h=>?_;cbv;refine aG h ?_ ?_<;>intro h
      ·cbv;refine .g h (fun (oD:(List Int))=>[.top,oi jl,.hd 7,.ptr 8 0]++rp 3 .top++[oi i33]++rp 32 .top) (fun oD=>[.cells [.d (.val (.slice none 0 0)),.d (.val (.slice none 0 0))] 28,.cells [dq aZ p.Rules,dq dD fH,dq bC bQ,dq bJ bK,.hd 4,.hd 5,.hd 6,ob gy] 90,.gone,.gone,rC gX,rD gW,rC gV,rC oD,.cells [dq bC bQ,dq bJ bK] 28]) (fun y hm ku aY=>?_) fun t h=>?_
       ·have h:=hm;clear hm;cbv;refine .g h (fun _=>rfl) fun x36 h=>?_;cbv;refine .g h (fun _=>rfl) fun x37 h=>?_;cbv;obtain⟨r38,hm,h⟩:=Option.bind_eq_some_iff.1 h;refine .xg [7] (ZU hP bQ bK 61 _ _ _ hm) mx fun sv0 dG hq _=>?_;obtain⟨rfl,rfl⟩:=hq;clear hm;cbv;obtain rfl:=oj h;exact aY _ _ _ rfl (.nz (.aB [0,1,2,3,4,5,6,9,8] mx))
       obtain⟨oD,rfl⟩:=ez t;cbv;obtain rfl:=oj h;exact aP _ _ _ rfl (.nz (.aB [0,1,2,3,4,5,6,7,8] mx))
      ·cbv;obtain rfl:=oj h;obtain rfl:=hr3 _ rfl;exact bg _ _ _ rfl (.nz (.aB [0,1,2,3,4,5,6,7] mx))
     obtain⟨oG,rfl⟩:=ez t;cbv;obtain rfl:=oj h;exact aC _ _ _ rfl (.nz (.aB [0,1,4,5,6,7] mx))
   obtain⟨dN,rfl⟩:=ez t;cbv;refine .g (e:=aH) h aJ (by decide) fun l39 h=>?_;cbv;refine .g h (fun (dY:(List Int))=>[.top,.top,.ptr 0 0,.top,.ptr 1 0]++rp 4 .top++[.hd 5,.hd 6]++rp 140 .top) (fun dY=>[.cells [.d (.val (.slice none 0 0)),.d (.val (.slice none 0 0))] 28,.cells [dq aZ p.Rules,dq dD fH,dq bC bQ,dq bJ bK,.hd 2,.hd 3,.hd 4,ob gy] 90,rC gX,rD gW,rC gV,rC dN,rC dY]) (fun y hm Kn1 aC=>?_) fun t h=>?_
   ·have h:=hm;clear hm;cbv;refine .g h (fun ((jD,i42):(List Int)×Int)=>[.top,.top,.ptr 0 0,.top,.ptr 1 0]++rp 4 .top++[.hd 5,.hd 6,oi i42]++rp 139 .top) (fun (jD,i42)=>[.cells [.d (.val (.slice none 0 0)),.d (.val (.slice none 0 0))] 28,.cells [dq aZ p.Rules,dq dD fH,dq bC bQ,dq bJ bK,.hd 2,.hd 3,.hd 4,ob gy] 90,rC gX,rD gW,rC gV,rC dN,rC jD]) (.nz (.aB [0,1,2,3,4,5,6] ?_)) fun s x h hr2 Kn2 bg=>?_
    ·exact mx
    unfold P9 at h;obtain⟨jD,i42⟩:=s;cbv;refine aG h ?_ ?_<;>intro h
    ·cbv;refine .g h fun i43 h=>?_;cbv;refine .g h fun v44 h=>?_;cbv;refine .g h fun i45 h=>?_;cbv;refine .g h (fun _=>by first|rfl|exact zZ _|(cbv;simp only[DZ])) fun l47 h=>?_;cbv;obtain rfl:=oj h;exact bg _ _ _ rfl (.nz (.aB [0,1,2,3,4,5,6] mx))
    ·cbv;obtain rfl:=oj h;obtain rfl:=hr2 _ rfl;exact aC _ _ _ rfl (.nz (.aB [0,1,2,3,4,5,6] mx))
   obtain⟨dY,rfl⟩:=ez t;cbv;refine .g h (fun ((o7,lV):(List Node)×(List Decision))=>[.top,.top,.ptr 0 0]++rp 9 .top++[.ptr 1 0]++rp 138 .top) (fun (o7,lV)=>[.cells [.d (.val (.slice none 0 0)),.d (.val (.slice none 0 0))] 28,.cells [.hd 2,.hd 3] 28,rE o7,rF lV]) (fun y hm Kn1 aC=>?_) fun t h=>?_
   ·have h:=hm;clear hm;cbv;refine .g h (fun ((jr,iJ,i52):(List Node)×(List Decision)×Int)=>[.top,.top,.ptr 0 0,.top,.ptr 1 0]++rp 4 .top++[.hd 5,.hd 6,.top,.ptr 7 0,oi i52]++rp 137 .top) (fun (jr,iJ,i52)=>[.cells [.d (.val (.slice none 0 0)),.d (.val (.slice none 0 0))] 28,.cells [dq aZ p.Rules,dq dD fH,dq bC bQ,dq bJ bK,.hd 2,.hd 3,.hd 4,ob gy] 90,rC gX,rD gW,rC gV,rC dN,rC dY,.cells [.hd 8,.hd 9] 28,rE jr,rF iJ]) (.DF 7 0 50 4 _ 28 rfl rfl (.DF 7 1 44 16 _ 28 rfl rfl (.nz (.aB [0,1,2,3,4,5,6,7,8,9] ?_)))) fun s x h hr2 Kn2 bg=>?_
    ·exact mx
    unfold PL at h;obtain⟨jr,iJ,i52⟩:=s;cbv;refine aG h ?_ ?_<;>intro h
    ·cbv;refine .g h (fun ((oZ,lU):(List Node)×(List Decision))=>[.top,.top,.ptr 0 0,.top,.ptr 1 0]++rp 4 .top++[.hd 5,.hd 6,.top,.ptr 7 0,oi i52]++rp 137 .top) (fun (oZ,lU)=>[.cells [.d (.val (.slice none 0 0)),.d (.val (.slice none 0 0))] 28,.cells [dq aZ p.Rules,dq dD fH,dq bC bQ,dq bJ bK,.hd 2,.hd 3,.hd 4,ob gy] 90,rC gX,rD gW,rC gV,rC dN,rC dY,.cells [.hd 8,.hd 9] 28,rE oZ,rF lU]) (fun y hm Kn3 aP=>?_) fun t h=>?_
     ·have h:=hm;clear hm;cbv;refine .g h fun i55 h=>?_;cbv;refine .g h fun v56 h=>?_;cbv;refine .g h (fun _=>rfl) fun wR h=>?_;cbv;refine .g h (fun (nR:(List Int))=>[.top,.top,.ptr 0 0,.top,.ptr 1 0]++rp 4 .top++[.hd 5,.hd 6,.top,.ptr 7 0,oi i52,.ptr 10 0,.hd 11]++rp 135 .top) (fun nR=>[.cells [.d (.val (.slice none 0 0)),.d (.val (.slice none 0 0))] 28,.cells [dq aZ p.Rules,dq dD fH,dq bC bQ,dq bJ bK,.hd 2,.hd 3,.hd 4,ob gy] 90,rC gX,rD gW,rC gV,rC dN,rC dY,.cells [.hd 8,.hd 9] 28,rE jr,rF iJ,.cells [oi wR.Attr,dq aH wR.aI,dq aH wR.Kids,oi wR.Leaf] 50,rC nR]) (fun y hm ku aY=>?_) fun t h=>?_
      ·have h:=hm;clear hm;cbv;refine .g h (fun ((qx,L6):(List Int)×Int)=>[.top,.top,.ptr 0 0,.top,.ptr 1 0]++rp 4 .top++[.hd 5,.hd 6,.top,.ptr 7 0,oi i52,.ptr 10 0,.hd 11,oi L6]++rp 134 .top) (fun (qx,L6)=>[.cells [.d (.val (.slice none 0 0)),.d (.val (.slice none 0 0))] 28,.cells [dq aZ p.Rules,dq dD fH,dq bC bQ,dq bJ bK,.hd 2,.hd 3,.hd 4,ob gy] 90,rC gX,rD gW,rC gV,rC dN,rC dY,.cells [.hd 8,.hd 9] 28,rE jr,rF iJ,.cells [oi wR.Attr,dq aH wR.aI,dq aH wR.Kids,oi wR.Leaf] 50,rC qx]) (.Mc 15 3 1 rfl (.nz (.aB [0,1,2,3,4,5,6,7,8,9,10,11] ?_))) fun s x h wo Hr jH=>?_
       ·exact mx
       unfold PO at h;obtain⟨qx,L6⟩:=s;cbv;refine aG h ?_ ?_<;>intro h
       ·cbv;refine .g h (fun _=>rfl) fun x61 h=>?_;cbv;refine .g h fun i62 h=>?_;cbv;refine .g h fun v63 h=>?_;cbv;refine .g (e:=aH) h (gU aJ (jP _)) fun l64 h=>?_;cbv;refine .g h rfl (fun _=>rfl) (by decide) fun ED h=>?_;cbv;obtain rfl:=oj h;exact jH _ _ _ rfl (.nz (.aB [0,1,2,3,4,5,6,7,8,9,10,13] mx))
       ·cbv;obtain rfl:=oj h;obtain rfl:=wo _ rfl;exact aY _ _ _ rfl (.nz (.aB [0,1,2,3,4,5,6,7,8,9,10,11] mx))
      obtain⟨nR,rfl⟩:=ez t;cbv;refine .g h (fun ((lT,vk):(List Decision)×Int)=>[.top,.top,.ptr 0 0,.top,.ptr 1 0]++rp 4 .top++[.hd 5,.hd 6,.top,.ptr 7 0,oi i52,.ptr 10 0]++rp 136 .top) (fun (lT,vk)=>[.cells [.d (.val (.slice none 0 0)),.d (.val (.slice none 0 0))] 28,.cells [dq aZ p.Rules,dq dD fH,dq bC bQ,dq bJ bK,.hd 2,.hd 3,.hd 4,ob gy] 90,rC gX,rD gW,rC gV,rC dN,rC dY,.cells [.hd 8,.hd 9] 28,rE jr,rF lT,.cells [oi wR.Attr,dq aH wR.aI,.hd 11,oi vk] 50,rC nR]) (fun y hm ku aY=>?_) fun t h=>?_
      ·have h:=hm;clear hm;cbv;refine aG h ?_ ?_<;>intro h
       ·cbv;refine .g h (fun _=>rfl) fun x68 h=>?_;cbv;refine .g (e:=bJ) h (gU aJ (jP _)) fun l69 h=>?_;cbv;refine .g h rfl (fun _=>rfl) (by decide) fun l70 h=>?_;cbv;obtain rfl:=oj h;exact aY _ _ _ rfl (.nz (.aB [0,1,2,3,4,5,6,7,8,12,10,11] mx))
       ·cbv;obtain rfl:=oj h;exact aY _ _ _ rfl (.nz (.aB [0,1,2,3,4,5,6,7,8,9,10,11] mx))
      obtain⟨lT,vk⟩:=t;cbv;refine .g (e:=bC) h (gU aJ (jP _)) fun l71 h=>?_;cbv;refine .g h rfl (fun _=>rfl) (by decide) fun l72 h=>?_;cbv;obtain rfl:=oj h;exact aP _ _ _ rfl (.nz (.aB [0,1,2,3,4,5,6,7,13,9] mx))
     obtain⟨oZ,lU⟩:=t;cbv;obtain rfl:=oj h;exact bg _ _ _ rfl (.nz (.aB [0,1,2,3,4,5,6,7,8,9] mx))
    ·cbv;obtain rfl:=oj h;obtain rfl:=hr2 _ rfl;exact aC _ _ _ rfl (.nz (.aB [0,7,8,9] mx))
   obtain⟨o7,lV⟩:=t;cbv;obtain rfl:=oj h;exact hK _ _ aJ
end Go.SX.Td
namespace Go.SX.Td
open Go Go.SX Go.Proofs Go.RowKit Tb
attribute [local go_sem ↓] Go.wp_at_zero Go.wp_at_succ
theorem WU {F:Fz}{u:Value}{es:List (List D)}(h:Rep F u (.sl es)):u.oneCell'=true:=by
 obtain⟨a,k,c,rfl⟩:=wU h;rfl
theorem least_walk {c:Cx}{w0:World}(S:Sat c [] w0){A B:Tab Decision}(hA:A.Ok bn)(hB:B.Ok bn)(dA:∀ n∈A.ns,Bd n)(dB:∀ n∈B.ns,Bd n){nA l1 nB l2:Value}
  (rA:Rep c.F nA (.sl (W bC (A.ns.map bD)))) (sA:Rep c.F l1 (.sl (W bJ A.ls))) (rB:Rep c.F nB (.sl (W bC (B.ns.map bD)))) (sB:Rep c.F l2 (.sl (W bJ B.ls)))
  {Bk:Nat} {bs cs:Nat->Nat} {N M cap:Nat} (eN:A.ns.length=N) (eM:B.ns.length=M) (hN:N<=20000) (hM:M<=20000):∀ (d:Nat)(w:World)(g:Gr)(x y:Nat)(f:aF Int),Below w0.heap.size w0 w->gG w0.heap.size Bk bs cs N M w g->x<N->y<M->10<d+min (aT (A.nd x)) (aT (B.nd y)) ->
   Calls Tryz.prog 26 #[.agg #[nA,l1],.agg #[nB,l2],.int .i64 x,.int .i64 y,fV f,.slice (some ⟨Bk,0,none⟩) N cap] w (Pz w0.heap.size Bk bs cs N M w (oM A B d x y f g))
 |0,w,g,x,y,f,_,_,hx,_,hd=>by have:=xG hA (x:=x) (by omega);omega
 |d+1,w,g,x,y,f,hw,hG,hx,hy,hd=>by
  have IH:=least_walk S hA hB dA dB rA sA rB sB (Bk:=Bk) (bs:=bs) (cs:=cs) (cap:=cap) eN eM hN hM d
  cases hg:grd g x y with
  |true =>
   have e:oM A B (d+1) x y f g=(f,false,g):=by
    simp only[oM];rw[if_pos hg]
   rw[e]
   exact pb1 hG hx hy hN hM f hg nA nB l1 l2 (WU rA) (WU rB) (WU sA) (WU sB)
  |false =>
   by_cases h10:min (aT (A.nd x)) (aT (B.nd y))=10
   ·exact rk1 S hA hB dA dB rA sA rB sB eN eM hN hM hw hG hx hy h10 hd f hg
   ·exact py1 S hA hB dA dB rA sA rB sB eN eM hN hM (fun W g u v f h1 h2 h3 h4 h5=>IH W g u v f h1 h2 h3 h4 h5) hw hG hx hy (by have:=xG hA (x:=x) (by omega);omega) hd f hg
structure VU (A B:Tab Decision):Prop where
 a:A.Ok bn
 b:B.Ok bn
 bA:∀ n∈A.ns,Bd n
 bB:∀ n∈B.ns,Bd n
 lA:0<A.ns.length/\A.ns.length<=20000
 lB:0<B.ns.length/\B.ns.length<=20000
def GL (A B:Tab Decision):Gr:=List.replicate A.ns.length (List.replicate B.ns.length false)
noncomputable def Gz (A B:Tab Decision)(s:aF Int):aF Int×Bool:=if (oM A B 11 0 0 s (GL A B)).2.1=true then ((oM A B 11 0 0 s (GL A B)).1,true) else (A0,false)
open Classical in
noncomputable def H6 (p:au)(T:Table):Option (aF Int×Bool) :=
 (Gq p).bind fun v=>bif v then
  (Cm T).bind fun u=>bif u then
   (if h:∃ A B:Tab Decision,Je p=some (dZ A,0)/\T=dZ B/\VU A B then some (Gz h.choose h.choose_spec.choose startA) else none)
  else some (A0,true)
 else some (A0,true)
theorem nr1 {F:Fz}{u:Value}{es:List (List D)}(h:Rep F u (.sl es)):∃ a c,u=.slice a es.length c:=by
 cases h with
 |nil a cap _=>exact⟨_,_,rfl⟩
 |sl=>exact⟨_,_,rfl⟩
theorem se1 {c:Cx}{own:List ak}{w:World}(h:Sat c own w):Sat ⟨c.θ,c.F,0⟩ [] w :=
 ⟨rfl,fun r x hx=>by simp at hx,fun r s x y b hx=>by simp at hx,fun r x b hx=>by simp at hx,h.le,h.one,h.tab⟩
theorem ar1 {P:Program}{f:FuncId}{ss:List SV}{s:SV}(h:Fn1 P f ss s){c:Cx}{w0 w:World}{us:List Value}(hS:Sat c [] w0)(hb:Below w0.heap.size w0 w)(hr:dP c ss us) :
  Calls P f us.toArray w fun e w'=>∃ v c',e=.returned v/\Rel c' s v/\Sat ⟨c'.θ,c'.F,0⟩ [] w'/\(∀ b o,c.F b=some o->c'.F b=some o)/\Below w.heap.size w w':=by
 have hS':Sat c [] w:=hS.on (.refl c) rfl hS.one (fun b hb'=>hb.block b hb') (fun b o hb'=>by rw[hb.block b (hS.wI hb')];exact hS.le b o hb') (fun b hb'=>.inl hb')
 refine(h.2 c w us hS' hr).mono ?_
 rintro e w' ⟨c',own',sv,u,rfl,h1,h2,h3,h4,rfl⟩
 exact⟨u,c',rfl,h1,se1 h2,h3.f,⟨h4.os,h4.tape,h4.output,h4.size,fun b hb'=>h4.keep b hb' (fun ⟨r,x,hx,_⟩=>by cases hx)⟩⟩
theorem bj1 {c:Cx}{p:au}{ru:Value}(h:Rep c.F ru (.sl (W aZ p.Rules))):Rel c (BA p) (.agg #[ru]):=.agg rfl fun i s u h1 h2=>by
 have hi:i<1:=(List.getElem?_eq_some_iff.1 h1).1
 match i,hi with
 |0,_=>cases h1;cases h2;exact .d h
theorem jp2 {c:Cx}{T:Table}{nv lv:Value}(h1:Rep c.F nv (.sl (W bC T.Nodes)))(h2:Rep c.F lv (.sl (W bJ T.Leaves))):Rel c (BR T) (.agg #[nv,lv]):=.agg rfl fun i s u k1 k2=>by
 have hi:i<2:=(List.getElem?_eq_some_iff.1 k1).1
 match i,hi with
 |0,_=>cases k1;cases k2;exact .d h1
 |1,_=>cases k1;cases k2;exact .d h2
theorem mm1 {c:Cx}{T:Table}{u:Value}(h:Rel c (BR T) u):∃ nv lv,u=.agg #[nv,lv]/\Rep c.F nv (.sl (W bC T.Nodes))/\Rep c.F lv (.sl (W bJ T.Leaves)):=by
 obtain⟨us,rfl,h1,h2⟩:=Rel.tH.1 h
 match us,h1 with
 |[a,b],_ =>
  refine⟨a,b,rfl,?_,?_⟩
  ·have:=h2 0 _ a rfl rfl;cases this with|d h=>exact h
  ·have:=h2 1 _ b rfl rfl;cases this with|d h=>exact h
section
variable {c:Cx}{w:World}(S:Sat c [] w){p:au}{T:Table}{ru nv lv:Value}(rp:Rep c.F ru (.sl (W aZ p.Rules)))(rn:Rep c.F nv (.sl (W bC T.Nodes)))(rl:Rep c.F lv (.sl (W bJ T.Leaves)))
include S rp
theorem k25 {v:Bool}(h:Gq p=some v)(w1:World)(hb:Below w.heap.size w w1):Calls Tryz.prog 25 #[.agg #[ru]] w1 fun e w'=>e=.returned (.bool v)/\Below w1.heap.size w1 w' :=
 Sz (us:=[_]) (lw0 rfl p v h) S hb (.cons (bj1 rp) .nil)
theorem k13 {o:Table×Int}(h:Je p=some o)(w1:World)(hb:Below w.heap.size w w1):Calls Tryz.prog 13 #[.agg #[ru]] w1 fun e w'=>∃ nv lv c',e=.returned (.tuple #[.agg #[nv,lv],.int .i64 o.2])/\Rep c'.F nv (.sl (W bC o.1.Nodes))/\Rep c'.F lv (.sl (W bJ o.1.Leaves)) /\
  Sat c' [] w'/\(∀ b o,c.F b=some o->c'.F b=some o)/\Below w1.heap.size w1 w':=by
 refine(ar1 (us:=[_]) (qd1 rfl p o h) S hb (.cons (bj1 rp) .nil)).mono ?_
 rintro e w' ⟨v,c',rfl,h1,h2,h3,h4⟩
 obtain⟨us,rfl,k1,k2⟩:=Rel.yD.1 h1
 match us,k1 with
 |[a,b],_ =>
  obtain⟨nv,lv,rfl,h5,h6⟩:=mm1 (k2 0 _ a rfl rfl)
  obtain rfl:=(k2 1 _ b rfl rfl).gB
  exact⟨nv,lv,⟨c'.θ,c'.F,0⟩,rfl,h5,h6,h2,h3,h4⟩
omit rp
include rn rl
theorem k16 {v:Bool}(h:Cm T=some v)(w1:World)(hb:Below w.heap.size w w1):Calls Tryz.prog 16 #[.agg #[nv,lv]] w1 fun e w'=>e=.returned (.bool v)/\Below w1.heap.size w1 w' :=
 Sz (us:=[_]) (qf1 rfl T v h) S hb (.cons (jp2 rn rl) .nil)
omit rn rl
theorem k21 (w1:World)(hb:Below w.heap.size w w1):Calls Tryz.prog 21 #[] w1 fun e w'=>e=.returned (fV startA)/\Below w1.heap.size w1 w':=by
 refine(Zr (us:=[]) (lk0 (P:=Tryz.prog) rfl startA start_eq) S hb .nil).mono ?_
 rintro e w' ⟨u,c',rfl,h1,-,h2⟩
 refine⟨?_,h2⟩
 rw[gn1 (vs:=(fA startA).toList) h1]
 rfl
end
end Go.SX.Td
namespace Go.SX.Td
open Go Go.SX Go.Proofs
set_option maxRecDepth 100000
noncomputable def V6 (p:au)(t_:Table):Option (Bool) :=
 Option.bind (QL) fun Zk =>
 Option.bind (Ot p t_) fun v2 =>
 bif (io.not v2) then (
 some Zk
 ) else (
 Option.bind (uj p t_) fun v3 =>
 Option.bind (H6 p t_) fun v4 =>
 bif Zk then (
 bif (Ea v3.1 v4.1) then (
 some (io.beq false v3.2 v4.2)
 ) else (
 some false
 )
 ) else (
 some false
 )
 )
end Go.SX.Td
namespace Go.SX.Td
open Go Go.SX Go.Proofs Go.RowKit Tb
attribute [local go_sem ↓] Go.wp_at_zero Go.wp_at_succ
theorem three {w:World}(A B C:Array Value)(s t u:TypeId):∃ w1,((w.alloc (.cells A s)).alloc (.cells B t)).alloc (.cells C u)=w1/\Below w.heap.size w w1/\eG w1 w.heap.size A s/\eG w1 (w.heap.size+1) B t/\eG w1 (w.heap.size+1+1) C u:=by
 refine⟨_,rfl,(((Below.refl _ _).alloc (Nat.le_refl _) _).alloc (by simp) _).alloc (by simp;omega) _,?_,?_,?_⟩
 ·unfold eG;rw[heap_alloc_old _ _ (by simp;omega),heap_alloc_old _ _ (by simp)];exact heap_alloc_new w _
 ·unfold eG;rw[heap_alloc_old _ _ (by simp)];have:=heap_alloc_new (w.alloc (.cells A s)) (.cells B t);simpa using this
 ·unfold eG;have:=heap_alloc_new ((w.alloc (.cells A s)).alloc (.cells B t)) (.cells C u);simpa using this
theorem Wn {w w1:World}{b:Nat}{f0:aF Int}(hb:Below w.heap.size w w1)(h:eG w1 b (fA f0) 32)(hl:w.heap.size<=b)(f:aF Int):∃ w',((((((((((w1.setCell ⟨b,0,none⟩ (.int .i64 f.a0)).setCell ⟨b,1,none⟩ (.int .i64 f.a1)).setCell ⟨b,2,none⟩ (.int .i64 f.a2)).setCell ⟨b,3,none⟩ (.int .i64 f.a3)).setCell ⟨b,4,none⟩ (.int .i64 f.a4)).setCell ⟨b,5,none⟩ (.int .i64 f.a5)).setCell ⟨b,6,none⟩ (.int .i64 f.a6)).setCell ⟨b,7,none⟩ (.int .i64 f.a7)).setCell ⟨b,8,none⟩ (.int .i64 f.a8)).setCell ⟨b,9,none⟩ (.int .i64 f.a9))=w'/\(∀ o,w'.cell? ⟨b,o,none⟩=(fA f)[o]?)/\Below w.heap.size w w':=by
 obtain⟨w',h1,h2,h3⟩:=Za h f
 exact⟨w',h1,h2.cell,hb.trans (h3.below hl)⟩
set_option maxHeartbeats 4000000 in
set_option maxRecDepth 100000 in
theorem ox0 {c:Cx}{w:World}(S:Sat c [] w){p:au}{T:Table}{ru nv lv:Value}(rp:Rep c.F ru (.sl (W aZ p.Rules)))(rn:Rep c.F nv (.sl (W bC T.Nodes)))(rl:Rep c.F lv (.sl (W bJ T.Leaves)))
  {v u:Bool} (hv:Gq p=some v) (hu:v=true->Cm T=some u) (hb:v=false\/u=false) :
  Calls Tryz.prog 8 #[.agg #[ru],.agg #[nv,lv]] w fun e w'=>e=.returned (.tuple #[fV A0,.bool true])/\Below w.heap.size w w':=by
 obtain⟨a1,n1,c1,rfl⟩:=wU rp
 obtain⟨a2,n2,c2,rfl⟩:=wU rn
 obtain⟨a3,n3,c3,rfl⟩:=wU rl
 have U0:=k25 S rp hv
 have h16:=fun h=>k16 S rn rl (hu h)
 go_enter Tryz.func8,Tryz.ntmps8
 go_upto_region 1 with (fail)
 obtain⟨w1,hw1,hB1,g2,g3,g4⟩:=three (w:=w) #[.slice a1 n1 c1] #[.slice a2 n2 c2,.slice a3 n3 c3] (fA A0) 24 28 32
 unfold fA A0 at hw1
 rw[hw1]
 clear hw1
 have e2:=g2.cell
 cases v with
 |false =>
  go_upto_if 19 with (first|(go_at_call 25;refine(U0 _ hB1).mono ?_;rintro e w2 ⟨rfl,hb2⟩))
  have hB2:=qc hB1 hb2
  have Nw:=g4.below hb2
  have e4:=Nw.cell
  have z4:=Nw.frozen
  unfold fA A0 at e4
  clear e2 g2 g3 g4 hb2 hB1
  go_wp2_with fail
  obtain⟨w5,hw5,e5,AU⟩:=Wn hB2 Nw (by omega) A0
  unfold A0 at hw5
  rw[hw5]
  clear e4 z4 hw5
  unfold fA A0 at e5
  exact bodyPost_ret (v:=.tuple #[fV A0,.bool true]) (by simp[results,Tryz.results8,go_sem,e5,fV,fA,A0]) rfl ⟨rfl,AU⟩
 |true =>
  obtain rfl:u=false:=by rcases hb with h|h;cases h;exact h
  have q16:=h16 rfl
  go_upto_if 19 with (first|(go_at_call 25;refine(U0 _ hB1).mono ?_;rintro e w2 ⟨rfl,hb2⟩;go_loud (have e3:=(g3.below hb2).cell;have hB2:=qc hB1 hb2))|(go_at_call 16;go_loud (refine(q16 _ hB2).mono ?_;rintro e w3 ⟨rfl,hb3⟩)))
  have hB3:=qc hB2 hb3
  have Nw:=(g4.below hb2).below hb3
  have e4:=Nw.cell
  have z4:=Nw.frozen
  unfold fA A0 at e4
  clear e2 e3 g2 g3 g4 hb2 hb3 hB1 hB2
  go_wp2_with fail
  obtain⟨w5,hw5,e5,AU⟩:=Wn hB3 Nw (by omega) A0
  unfold A0 at hw5
  rw[hw5]
  clear e4 z4 hw5
  unfold fA A0 at e5
  exact bodyPost_ret (v:=.tuple #[fV A0,.bool true]) (by simp[results,Tryz.results8,go_sem,e5,fV,fA,A0]) rfl ⟨rfl,AU⟩
theorem gg2 : (Tryz.prog.info? 69).map (fun i=>(i.zero,i.size,i.bytes))=some (some (.slice none 0 0),1,24):=by kernel_rfl
theorem info4 : (Tryz.prog.info? 4).map (fun i=>(i.zero,i.size,i.bytes))=some (some (.bool false),1,1):=by kernel_rfl
theorem kc2 {wr:World}{n Bk N M:Nat}(hn:n<=Bk)(hrow:wr.rowIs Bk 69 N (fun q=>if q<N then .slice (some ⟨Bk+1+q,0,none⟩) M M else .slice none 0 0))(hrows:∀ q,q<N->wr.rowIs (Bk+1+q) 4 M (fun _=>.bool false)) :
  gG n Bk (fun q=>Bk+1+q) (fun _=>M) N M wr (List.replicate N (List.replicate M false)) where
 ok:=⟨by simp,fun r hr=>by rw[List.eq_of_mem_replicate hr];simp⟩
 out:=by
  obtain⟨us,h1,h2,h3⟩:=hrow
  exact⟨us,h1,fun j hj=>by rw[h3 j hj];exact congrArg some (if_pos hj)⟩
 row j hj:=by
  obtain⟨us,h1,h2,h3⟩:=hrows j hj
  refine⟨us,h1,fun i hi=>?_⟩
  rw[h3 i hi]
  simp[grd,hj,hi]
 inj j j' _ _ h:=by omega
 ge:=⟨hn,fun j hj=>by omega⟩
theorem eG.Tn {bs:Nat->Nat}{N:Nat}{w1 w2:World}{b:Nat}{us:Array Value}{t:TypeId}(h:eG w1 b us t)(hk:Kp bs N w1 w2)(hb:∀ j,j<N->b≠bs j):eG w2 b us t:=by
 have hl:=h.lt
 unfold eG at *
 rw[hk.block b hl hb];exact h
theorem my1 (w1:World):(w1.alloc (.cells #[.int .i64 0,.int .i64 0,.int .i64 0,.int .i64 0,.int .i64 0,.int .i64 0,.int .i64 0,.int .i64 0,.int .i64 0,.int .i64 0] 32)).there w1.heap.size 0 10:=eG.there (us:=#[.int .i64 0,.int .i64 0,.int .i64 0,.int .i64 0,.int .i64 0,.int .i64 0,.int .i64 0,.int .i64 0,.int .i64 0,.int .i64 0]) (t:=32) (heap_alloc_new w1 (.cells #[.int .i64 0,.int .i64 0,.int .i64 0,.int .i64 0,.int .i64 0,.int .i64 0,.int .i64 0,.int .i64 0,.int .i64 0,.int .i64 0] 32))
theorem oe1 {bs:Nat->Nat}{N n:Nat}{w1 w2:World}(h:Kp bs N w1 w2)(hb:∀ j,j<N->n<=bs j)(hn:n<=w1.heap.size):Below n w1 w2 :=
 ⟨h.os,h.tape,h.output,h.size,fun b hb'=>h.block b (by omega) fun j hj e=>by have:=hb j hj;omega⟩
structure zO (w4:World)(p6 p3 p4:Nat)(X6 X3 X4:Array Value)(W:World):Prop where
 bel:Below w4.heap.size w4 W
 b6:eG W p6 X6 28
 b3:eG W p3 X3 28
 b4:eG W p4 X4 32
section
variable {w4:World}{p6 p3 p4:Nat}{X6 X3 X4:Array Value}{w1 w2:World}
theorem zO.below (h:zO w4 p6 p3 p4 X6 X3 X4 w1)(hb:Below w1.heap.size w1 w2):zO w4 p6 p3 p4 X6 X3 X4 w2:=⟨qc h.bel hb,h.b6.below hb,h.b3.below hb,h.b4.below hb⟩
theorem zO.drew (h:zO w4 p6 p3 p4 X6 X3 X4 w1):zO w4 p6 p3 p4 X6 X3 X4 w1.drew:=h.below (qj (Below.refl _ _))
theorem zO.alloc (h:zO w4 p6 p3 p4 X6 X3 X4 w1)(o:Obj):zO w4 p6 p3 p4 X6 X3 X4 (w1.alloc o):=h.below ((Below.refl _ _).alloc (Nat.le_refl _) _)
theorem zO.kp (h:zO w4 p6 p3 p4 X6 X3 X4 w1){bs:Nat->Nat}{N:Nat}(hk:Kp bs N w1 w2)(h4:∀ j,j<N->w4.heap.size<=bs j)(q6:∀ j,j<N->p6≠bs j)(q3:∀ j,j<N->p3≠bs j)(q4:∀ j,j<N->p4≠bs j):zO w4 p6 p3 p4 X6 X3 X4 w2 :=
 ⟨h.bel.trans (oe1 hk h4 h.bel.size),h.b6.Tn hk q6,h.b3.Tn hk q3,h.b4.Tn hk q4⟩
theorem zO.in1 (h:zO w4 p6 p3 p4 X6 X3 X4 w1){b:Nat}(k:kY b w1 w2)(h4:w4.heap.size<=b)(q6:p6≠b)(q3:p3≠b)(q4:p4≠b):zO w4 p6 p3 p4 X6 X3 X4 w2 :=
 ⟨h.bel.trans (k.below h4),h.b6.in1 k q6,h.b3.in1 k q3,h.b4.in1 k q4⟩
theorem gG.alloc {n Bk:Nat}{bs cs:Nat->Nat}{N M:Nat}{g:Gr}(h:gG n Bk bs cs N M w1 g)(o:Obj):gG n Bk bs cs N M (w1.alloc o) g:=h.below ((Below.refl _ _).alloc (Nat.le_refl _) _)
theorem XO {b:Nat}{f0:aF Int}(h:eG w1 b (fA f0) 32)(f:aF Int):eG (w1.setCells b 0 (fL f)) b (fA f) 32/\kY b w1 (w1.setCells b 0 (fL f)):=by
 obtain⟨w',h1,h2,h3⟩:=Za h f
 have e:w1.setCells b 0 (fL f)=w':=h1
 rw[e];exact⟨h2,h3⟩
theorem XL (w1:World):eG (w1.alloc (.cells #[.int .i64 0,.int .i64 0,.int .i64 0,.int .i64 0,.int .i64 0,.int .i64 0,.int .i64 0,.int .i64 0,.int .i64 0,.int .i64 0] 32)) w1.heap.size (fA A0) 32:=heap_alloc_new w1 (.cells #[.int .i64 0,.int .i64 0,.int .i64 0,.int .i64 0,.int .i64 0,.int .i64 0,.int .i64 0,.int .i64 0,.int .i64 0,.int .i64 0] 32)
end
set_option maxHeartbeats 4000000 in
set_option maxRecDepth 100000 in
theorem tb1 {c:Cx}{w:World}(S:Sat c [] w){p:au}{ru nv lv:Value}{A B:Tab Decision}(ok:VU A B)(rp:Rep c.F ru (.sl (W aZ p.Rules)))(rn:Rep c.F nv (.sl (W bC (B.ns.map bD))))(rl:Rep c.F lv (.sl (W bJ B.ls)))
  (hv:Gq p=some true) (hu:Cm (dZ B)=some true) (hB:Je p=some (dZ A,0)) :
  Calls Tryz.prog 8 #[.agg #[ru],.agg #[nv,lv]] w fun e w'=>e=.returned (.tuple #[fV (Gz A B startA).1,.bool (Gz A B startA).2])/\Below w.heap.size w w':=by
 obtain⟨N,eN⟩:∃ N,A.ns.length=N:=⟨_,rfl⟩
 obtain⟨M,eM⟩:∃ M,B.ns.length=M:=⟨_,rfl⟩
 have hN:=ok.lA
 have hM:=ok.lB
 rw[eN] at hN
 rw[eM] at hM
 obtain⟨a1,n1,c1,rfl⟩:=wU rp
 obtain⟨a2,c2,rfl⟩:=nr1 rn
 rw[rX,List.length_map,eM] at rn ⊢
 obtain⟨a3,n3,c3,rfl⟩:=wU rl
 have U0:=k25 S rp hv
 have h16:=k16 (T:=dZ B) S rn rl hu
 have h13:=k13 S rp hB
 go_enter Tryz.func8,Tryz.ntmps8
 go_upto_region 1 with (fail)
 obtain⟨w1,hw1,hB1,g2,g3,g4⟩:=three (w:=w) #[.slice a1 n1 c1] #[.slice a2 M c2,.slice a3 n3 c3] (fA A0) 24 28 32
 unfold fA A0 at hw1
 rw[hw1]
 clear hw1
 have e2:=g2.cell
 go_upto_region 3 with (first|(go_at_call 25;refine(U0 _ hB1).mono ?_;rintro e w2 ⟨rfl,hb2⟩;have e3:=(g3.below hb2).cell;have hB2:=qc hB1 hb2)|(go_at_call 16;refine(h16 _ hB2).mono ?_;rintro e w3 ⟨rfl,hb3⟩))
 have hB3:=qc hB2 hb3
 have e23:=((g2.below hb2).below hb3).cell
 clear e2 e3
 go_upto_region 4 with (first|(go_at_call 13;go_loud (refine(h13 _ hB3).mono ?_;rintro e w4 ⟨nv',lv',c',rfl,rA,sA,S',hF',hb4⟩;obtain⟨x1,y1,rfl⟩:=nr1 rA;obtain⟨x2,z2,y2,rfl⟩:=wU sA;rw[show (W bC (dZ A).Nodes).length=N by rw[rX];simp[dZ,eN]] at rA ⊢)))
 have hB4:=qc hB3 hb4
 have b3:=((g3.below hb2).below hb3).below hb4
 have b4:=((g4.below hb2).below hb3).below hb4
 obtain⟨w5,hw5⟩:∃ W,W=w4.alloc (.cells #[.slice x1 N y1,.slice x2 z2 y2] 28):=⟨_,rfl⟩
 have b6:eG w5 w4.heap.size #[.slice x1 N y1,.slice x2 z2 y2] 28:=by rw[hw5];exact heap_alloc_new _ _
 have hb5:Below w4.heap.size w4 w5:=by rw[hw5];exact(Below.refl _ _).alloc (Nat.le_refl _) _
 rw[<- hw5]
 clear hw5 g2 g3 g4 e23 hb2 hb3 hb4 hB1 hB2 hB3 U0 h16 h13
 replace b3:=b3.below hb5
 replace b4:=b4.below hb5
 have e6:=b6.cell
 have e3:=b3.cell
 have hmk:=run_make_row' (P:=Tryz.prog) 68 69 (.slice none 0 0) 24 Tryz.underlying68 gg2 rfl .i64 .i64 N (by omega) (by omega)
 have hmk2:=run_make_row' (P:=Tryz.prog) 69 4 (.bool false) 1 Tryz.underlying69 info4 rfl .i64 .i64 M (by omega) (by omega)
 go_wp2_with fail
 have hr0:=World.rowIs_made w5 (.slice none 0 0) N 69
 have hs0:(w5.alloc (.cells (madeCells #[.slice none 0 0] N) 69)).heap.size=w5.heap.size+1:=by simp
 have hb0:Below w5.heap.size w5 (w5.alloc (.cells (madeCells #[.slice none 0 0] N) 69)):=(Below.refl _ _).alloc (Nat.le_refl _) _
 clear e6 e3 hmk
 go_loopw [9] (fun i wr=>∃ j:Nat,i=.int .i64 (j:Int)/\j<=N/\wr.rowIs w5.heap.size 69 N (fun q=>if q<j then .slice (some ⟨w5.heap.size+1+q,0,none⟩) M M else .slice none 0 0)/\(∀ q,q<j->wr.rowIs (w5.heap.size+1+q) 4 M (fun _=>.bool false))/\wr.heap.size=w5.heap.size+1+j/\Below w5.heap.size w5 wr)
  (fun i _=>N - (RowKit.intOf i).toNat)
 case atStart=>exact⟨0,rfl,Nat.zero_le _,hr0.congr (fun q _=>by simp),fun q hq=>absurd hq (by omega),by rw[hs0],hb0⟩
 case round =>
  clear hr0 hs0 hb0
  obtain⟨j,rfl,hj,hrow,hrows,hsz,hbel⟩:=hrel
  by_cases hlt:j<N
  ·have j1:(0:Int)<=(j:Int):=by omega
   have j2:(j:Int)<(N:Int):=by omega
   have e3:=(b3.below hbel).cell
   have hra:=hrow.alloc (.cells (madeCells #[.bool false] M) 4)
   have hc:=hra.cell hlt
   have hf:=hra.frozen j
   have hnew:=World.rowIs_made wr (.bool false) M 4
   rw[if_neg (by omega)] at hc
   go_wp2_with fail
   go_roundw
   case rel =>
    refine⟨j+1,by go_num,by omega,(hra.set j _).congr (fun q hq=>?_),fun q hq=>?_,by simp;omega,(hbel.alloc (by omega) _).setCell (Nat.le_refl _) _⟩
    ·by_cases hqj:q=j
     ·subst hqj;rw[if_pos rfl,if_pos (by omega)]
     ·rw[if_neg hqj]
      by_cases h:q<j
      ·rw[if_pos h,if_pos (by omega)]
      ·rw[if_neg h,if_neg (by omega)]
    ·by_cases hqj:q=j
     ·subst hqj;rw[<- hsz];exact hnew.setOther (by show wr.heap.size≠w5.heap.size;omega) _
     ·exact((hrows q (by omega)).alloc _).setOther (by show w5.heap.size+1+q≠w5.heap.size;omega) _
   case measure=>simp[RowKit.intOf];omega
  ·have hje:j=N:=by omega
   subst hje
   clear hmk2 hlt
   go_upto_region 11 with (fail)
   have hG:=kc2 (n:=w4.heap.size) (by have:=hb5.size;omega) hrow hrows
   obtain⟨R,eR⟩:∃ R,oM A B 11 0 0 startA (GL A B)=R:=⟨_,rfl⟩
   have hL0:∀ W:World,Below w4.heap.size w4 W->gG w4.heap.size w5.heap.size (fun q=>w5.heap.size+1+q) (fun _=>M) j M W (List.replicate j (List.replicate M false)) ->
     Calls Tryz.prog 26 #[.agg #[.slice x1 j y1,.slice x2 z2 y2],.agg #[.slice a2 M c2,.slice a3 n3 c3],.int .i64 0,.int .i64 0,fV startA,.slice (some ⟨w5.heap.size,0,none⟩) j j] W fun e w'=>e=.returned (.tuple #[.agg (fL R.1).toArray,.bool R.2.1])/\Kp (fun q=>w5.heap.size+1+q) j W w':=fun W h1 h2=>by
    have h:=least_walk S' ok.a ok.b ok.bA ok.bB rA sA (rn.mono hF') (rl.mono hF') (cap:=j) eN eM hN.2 hM.2 11 W _ 0 0 startA h1 h2 hN.1 hM.1 (by omega)
    have e:(List.replicate j (List.replicate M false))=GL A B:=by unfold GL;rw[eN,eM]
    rw[e,eR] at h
    exact h.mono fun e w' ⟨k1,k2,k3⟩=>⟨k1,k2⟩
   have h21:∀ W:World,Below w4.heap.size w4 W->Calls Tryz.prog 21 #[] W fun e w'=>e=.returned (fV startA)/\Below W.heap.size W w':=fun W h=>k21 S' W h
   have hl6:=b6.lt
   have hl3:=b3.lt
   have hl4:=b4.lt
   have hbq:Below w5.heap.size w5 wr:=hbel
   have hSt:zO w4 w4.heap.size (w.heap.size+1) (w.heap.size+1+1) #[.slice x1 j y1,.slice x2 z2 y2] #[.slice a2 M c2,.slice a3 n3 c3] (fA A0) wr:=⟨qc hb5 hbq,b6.below hbq,b3.below hbq,b4.below hbq⟩
   have e6:=hSt.b6.cell
   have e3:=hSt.b3.cell
   have hwl:w.heap.size<=w4.heap.size:=hB4.size
   have hl5:w4.heap.size<=w5.heap.size:=hb5.size
   have hone:=yc2 R.1
   have UC:=gp2 R.1
   have hlen:=ZE R.1
   have Ue:=uv2
   have hq0:∀ q,q<j->w4.heap.size<=w5.heap.size+1+q:=fun q _=>by omega
   have hq6:∀ q,q<j->w4.heap.size≠w5.heap.size+1+q:=fun q _=>by omega
   have hq3:∀ q,q<j->w.heap.size+1≠w5.heap.size+1+q:=fun q _=>by omega
   have hq4:∀ q,q<j->w.heap.size+1+1≠w5.heap.size+1+q:=fun q _=>by omega
   have hlr:w5.heap.size+1+j<=wr.heap.size:=by omega
   go_cut [10,11] (fun s10 s11 wx=>∃ b:Nat,s10=.pointer (some ⟨b,0,none⟩)/\s11=.bool R.2.1/\eG wx b (fA R.1) 32/\w.heap.size<=b/\b≠w.heap.size+1+1 /\
    zO w4 w4.heap.size (w.heap.size+1) (w.heap.size+1+1) #[.slice x1 j y1,.slice x2 z2 y2] #[.slice a2 M c2,.slice a3 n3 c3] (fA A0) wx)
   case first =>
    clear hsz hrow hrows rA sA rn rl rp ok S S' hF' hv hu hB b3 b4 b6 hb5 hB4 hbel hbq eR eN eM hN hM
    go_region_held3 (fun w'=>w'.cell? ⟨w4.heap.size,0,none⟩=some (.slice x1 j y1)/\w'.cell? ⟨w4.heap.size,1,none⟩=some (.slice x2 z2 y2)/\w'.cell? ⟨w.heap.size+1,0,none⟩=some (.slice a2 M c2)/\w'.cell? ⟨w.heap.size+1,1,none⟩=some (.slice a3 n3 c3))
     (first|go_keep|(refine⟨?_,?_,?_,?_⟩<;>(rw[World.cell?_setCells_out _ _ _ _ _ (fun e=>absurd e (by first|(show w4.heap.size≠_;omega)|(show w.heap.size+1≠_;omega)))];go_keep)))
     (first|(go_at_call 21;refine(h21 _ hSt.drew.bel).mono ?_;rintro e wa ⟨rfl,hba⟩;have Fq:=hSt.drew.below hba;have XZ:=(hG.on (w':=wr.drew) rfl fun _ _=>rfl).below hba;have e6a:=Fq.b6.cell;have e3a:=Fq.b3.cell;have hsa:=hba.size;have hsz0:wr.drew.heap.size=wr.heap.size:=rfl)|(go_at_call 21;refine(h21 _ (hSt.drew.alloc _).bel).mono ?_;rintro e wa ⟨rfl,hba⟩;have hz:=(XL wr.drew).below hba;have Fq:=(hSt.drew.alloc _).below hba;have XZ:=((hG.on (w':=wr.drew) rfl fun _ _=>rfl).alloc _).below hba;have e6a:=Fq.b6.cell;have e3a:=Fq.b3.cell;have hsa:=hba.size;have hsz0:wr.drew.heap.size=wr.heap.size:=rfl)|(go_at_call 26;refine(hL0 _ Fq.bel XZ).mono ?_;rintro e wb ⟨rfl,hkb⟩;have hSb:=Fq.kp hkb hq0 hq6 hq3 hq4;have hzb:=eG.Tn hz hkb (fun q hq=>(by omega));have hth:=hzb.there;have e6b:=hSb.b6.cell;have e3b:=hSb.b3.cell;have hnn:∀ o:Obj,(wb.alloc o).heap.size=wb.heap.size+1:=fun o=>(by simp);have hsb:=hkb.size)|(go_at_call 26;refine(hL0 _ Fq.bel XZ).mono ?_;rintro e wb ⟨rfl,hkb⟩;have hSb:=Fq.kp hkb hq0 hq6 hq3 hq4;have hth:=my1 wb;have e6b:=hSb.b6.cell;have e3b:=hSb.b3.cell;have hnn:∀ o:Obj,(wb.alloc o).heap.size=wb.heap.size+1:=fun o=>(by simp);have hsb:=hkb.size)|(go_at_call 26;refine(hL0 _ (Fq.alloc _).bel (XZ.alloc _)).mono ?_;rintro e wb ⟨rfl,hkb⟩;have hSb:=(Fq.alloc _).kp hkb hq0 hq6 hq3 hq4;have hzb:=eG.Tn (XL wa) hkb (fun q hq=>(by omega));have hth:=hzb.there;have e6b:=hSb.b6.cell;have e3b:=hSb.b3.cell;have hnn:∀ o:Obj,(wb.alloc o).heap.size=wb.heap.size+1:=fun o=>(by simp);have hsb:=hkb.size))
    all_goals go_wp2_with fail
    all_goals go_meet
    all_goals first
     |exact⟨_,rfl,rfl,(XO hzb R.1).1,by omega,by omega,hSb.in1 (XO hzb R.1).2 (by omega) (by omega) (by omega) (by omega)⟩
     |exact⟨_,rfl,rfl,(XO (XL wb) R.1).1,by omega,by omega,(hSb.alloc _).in1 (XO (XL wb) R.1).2 (by omega) (by omega) (by omega) (by omega)⟩
   case rest =>
    obtain⟨wx,rfl⟩:∃ W,W=wc:=⟨wc,rfl⟩
    obtain⟨b,rfl,rfl,Dl,hb1,hb2,UY⟩:=hcut
    have hBx:=qc hB4 UY.bel
    have e4:=UY.b4.cell
    have z4:=UY.b4.frozen
    unfold fA A0 at e4
    cases hr:R.2.1 with
    |false =>
     have hd:Gz A B startA=(A0,false):=by unfold Gz;rw[eR,hr];rfl
     go_wp2_with fail
     obtain⟨w9,Iq,e9,hB9⟩:=Wn hBx UY.b4 (by omega) A0
     unfold A0 at Iq
     rw[Iq]
     clear e4 z4 Iq
     unfold fA A0 at e9
     exact bodyPost_ret (v:=.tuple #[fV A0,.bool false]) (by simp[results,Tryz.results8,go_sem,e9,fV,fA,A0]) rfl ⟨by first|rfl|rw[hd],hB9⟩
    |true =>
     have hd:Gz A B startA=(R.1,true):=by unfold Gz;rw[eR,hr];rfl
     have e10:=Dl.cell
     unfold fA at e10
     go_wp2_with fail
     obtain⟨w9,Iq,e9,hB9⟩:=Wn hBx UY.b4 (by omega) R.1
     rw[Iq]
     clear e4 z4 e10 Iq
     unfold fA at e9
     exact bodyPost_ret (v:=.tuple #[fV R.1,.bool true]) (by simp[results,Tryz.results8,go_sem,e9,fV,fA]) rfl ⟨by first|rfl|rw[hd],hB9⟩
theorem vn2 (c:Cx)(f:aF Int):Rel c (H9 f) (fV f):=.agg rfl fun i s u h1 h2=>by
 have hi:i<10:=(List.getElem?_eq_some_iff.1 h1).1
 match i,hi with
 |0,_|1,_|2,_|3,_|4,_|5,_|6,_|7,_|8,_|9,_=>cases h1;cases h2;exact .d (.val _ rfl)
theorem og1 {c:Cx}{w w':World}(S:Sat c [] w)(hb:Below w.heap.size w w'):Sat c [] w'/\Goes c [] w c [] w' :=
 ⟨S.on (.refl c) rfl S.one (fun b hb'=>hb.block b hb') (fun b o hb'=>by rw[hb.block b (S.wI hb')];exact S.le b o hb') (fun b hb'=>.inl hb'),
  ⟨hb.os,hb.tape,hb.output,hb.size,fun b hb' _=>hb.block b hb',fun b h=>.inl h,fun b ⟨r,x,hx,_⟩=>(by cases hx),fun _ _ h=>h⟩⟩
theorem ee0 {P:Program}(hP:P=Tryz.prog)(p:au)(T:Table)(r:aF Int×Bool)(h:H6 p T=some r):Fn1 P 8 [BA p,BR T] (.dO [H9 r.1,vB r.2]):=by
 subst hP
 refine⟨by kernel_rfl,fun c w us hS hr=>?_⟩
 suffices hc:Calls Tryz.prog 8 us.toArray w fun e w'=>e=.returned (.tuple #[fV r.1,.bool r.2])/\Below w.heap.size w w' by
  refine hc.mono ?_
  rintro e w' ⟨rfl,hb⟩
  obtain⟨h1,h2⟩:=og1 hS hb
  exact⟨c,[],_,_,rfl,Rel.yD.2 ⟨[fV r.1,.bool r.2],rfl,.cons (vn2 c _) (.cons (.d (.val _ rfl)) .nil)⟩,h1,.refl c,h2,rfl⟩
 obtain⟨k1,k2⟩:=hr
 match us,k1 with
 |[u0,u1],_ =>
  obtain⟨Lm,rfl,k3,k4⟩:=Rel.tH.1 (k2 0 _ u0 rfl rfl)
  obtain⟨nv,lv,rfl,rn,rl⟩:=mm1 (k2 1 _ u1 rfl rfl)
  match Lm,k3 with
  |[ru],_ =>
   have rp:Rep c.F ru (.sl (W aZ p.Rules)):=by have:=k4 0 _ ru rfl rfl;cases this with|d h=>exact h
   unfold H6 at h
   cases hv:Gq p with
   |none=>rw[hv] at h;cases h
   |some v =>
    rw[hv,Option.bind_some] at h
    cases v with
    |false =>
     cases h
     exact ox0 (u:=true) hS rp rn rl hv (fun e=>by cases e) (.inl rfl)
    |true =>
     rw[cond_true] at h
     cases hu:Cm T with
     |none=>rw[hu] at h;cases h
     |some u =>
      rw[hu,Option.bind_some] at h
      cases u with
      |false =>
       cases h
       exact ox0 hS rp rn rl hv (fun _=>hu) (.inr rfl)
      |true =>
       rw[cond_true] at h
       split at h
       ·rename_i hq
        obtain⟨q1,q2,q3⟩:=hq.choose_spec.choose_spec
        cases h
        have rn':Rep c.F nv (.sl (W bC (hq.choose_spec.choose.ns.map bD))):=by rw[q2] at rn;exact rn
        have rl':Rep c.F lv (.sl (W bJ hq.choose_spec.choose.ls)):=by rw[q2] at rl;exact rl
        exact tb1 hS q3 rp rn' rl' hv (by rw[<- q2];exact hu) q1
       ·cases h
end Go.SX.Td
namespace Go.SX.Td
open Go Go.SX Go.Proofs
set_option maxRecDepth 100000
def c3r0 : List ah:=gS 2 [.box 24 0,.box 28 1,.mv (cB false)]
def c3r1 : List ah:=gS 10 [.call 5 []]++gS 5 [.mv 10]
def c3r2 : List ah:=gS 11 [.load 1 true 2,.load 2 true 3,.call 6 [11,12],.un .not 13]
def c3r3 : List ah:=gS 15 [.mv 5]++gS 4 [.mv 15]
def c3r4 : List ah:=gS 17 [.load 1 true 2,.load 2 true 3,.call 7 [17,18]]++gS 16 [.mv 19]++gS 20 [.ext 16 0,.ext 16 1]++gS 6 [.alloc 32 (.agg #[oz,oz,oz,oz,oz,oz,oz,oz,oz,oz])]++[⟨none,.store 10 6 20,none⟩]++gS 7 [.mv 21]
def c3r5 : List ah:=gS 23 [.load 1 true 2,.load 2 true 3,.call 8 [23,24]]++gS 22 [.mv 25]++gS 26 [.ext 22 0,.ext 22 1]++gS 8 [.alloc 32 (.agg #[oz,oz,oz,oz,oz,oz,oz,oz,oz,oz])]++[⟨none,.store 10 8 26,none⟩]++gS 9 [.mv 27]
def c3r6 : List ah:=gS 28 [.mv 5,.mv 28]++gQ 29 true 30 [.load 10 true 6,.load 10 true 8,.beq false [.int,.int,.int,.int,.int,.int,.int,.int,.int,.int] 30 31]++gS 33 [.pick 29 32 (cB false),.mv 33]++gQ 34 true 35 [.mv 7,.mv 9,.beq false [] 35 36]++gS 38 [.pick 34 37 (cB false)]++gS 4 [.mv 38]
def c3 : fJ:=⟨39,.seq (.reg c3r0) (.seq (.reg c3r1) (.seq (.seq (.reg c3r2) (.cond 14 (.seq (.reg c3r3) (.ret)) (.skip))) (.seq (.reg c3r4) (.seq (.reg c3r5) (.seq (.reg c3r6) (.ret)))))),[.tmp 4]⟩
theorem dv3 : fD Tryz.prog 3=some c3.er:=by kernel_rfl
set_option maxHeartbeats 4000000 in
theorem uw0 {P:Program}(hP:P=Tryz.prog)(p:au)(t_:Table)(r:Bool)(h:V6 p t_=some r):Fn1 P 3 [BA p,BR t_] (vB r):=by
 refine .mJ (hP▸dv3) fun K hK=>?_;unfold V6 at h;cbv;refine .g h (fun v hv=>jf1 hP v hv) aJ rfl (fun _=>rfl) fun Zk h=>?_;cbv;refine .g h (fun v hv=>xb1 hP _ _ v hv) aJ rfl (fun _=>rfl) fun v2 h=>?_;cbv;refine aG h ?_ ?_<;>intro h
 ·cbv;obtain rfl:=oj h;exact hK _ _ aJ
 ·cbv;refine .g h (fun v hv=>Oe hP _ _ v hv) aJ rfl (fun _=>rfl) fun v3 h=>?_;cbv;refine .g h (fun v hv=>ee0 hP _ _ v hv) aJ rfl (fun _=>rfl) fun v4 h=>?_;cbv;refine aG h ?_ ?_<;>intro h
  ·cbv;refine aG h ?_ ?_<;>intro h
   ·cbv;obtain rfl:=oj h;exact hK _ _ aJ
   ·cbv;obtain rfl:=oj h;exact hK _ _ aJ
  ·cbv;obtain rfl:=oj h;exact hK _ _ aJ
end Go.SX.Td
