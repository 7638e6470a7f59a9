/- Parts of the proof. -/
import Derived.Test.YtllbabjgpdmblaaGreatDoorZTdT
import Derived.Test.YtllbabjgpdmblaaGreatDoorZTd32d
import Derived.Test.YtllbabjgpdmblaaGreatDoorZTd49
set_option linter.unusedSimpArgs false
set_option linter.unusedVariables false
set_option linter.unusedSectionVars false
namespace Go.SX.Td
open Go Go.SX Go.Proofs
set_option maxRecDepth 100000
def vz3 : List ah:=gS 5 [.box 58 2]
def vq3 : List ah:=gS 6 [.mv 0,.aO 6,.aj 19 7,.load 1 false 8,.bin .lss 9 (ci 0)]
def ku3 : List ah:=gS 11 [.mv 0,.mv 1,.aO 11,.aj 19 13]++[⟨none,.store 1 14 12,none⟩]
def ko3 : List ah:=gS 15 [.aj 3 5,.load 1 false 15,.bin .gtr 16 (ci 0),.mv 17]++gQ 18 true 19 [.mv 0,.aO 19,.aj 0 20,.aj 3 21,.load 1 false 22,.bin .eql 23 (ci 0),.mv 24]++gQ 25 false 26 [.aj 3 5,.load 1 false 26,.mv 0,.aO 28,.aj 0 29,.aj 3 30,.load 1 false 31,.bin .lss 27 32]++gQ 18 true 34 [.pick 25 (cB true) 33]++gS 35 [.pick 18 34 (cB false)]
def ki3 : List ah:=gS 36 [.mv 0,.aj 3 5,.load 1 false 37,.aO 36,.aj 0 39,.aj 3 40]++[⟨none,.store 1 41 38,none⟩]
def c61 : fJ:=⟨42,.seq (.reg vz3) (.join (.seq (.reg vq3) (.cond 10 (.reg ku3) (.skip))) (.join (.par true true true 18 ko3) (.cond 35 (.reg ki3) (.skip)))),[]⟩
theorem du2 : fD Tryz.prog 61=some c61.er:=by kernel_rfl
def ke3 : List ah:=gS 5 [.box 58 2]
def ka3 : List ah:=gS 6 [.mv 0,.aO 6,.aj 20 7,.load 1 false 8,.bin .lss 9 (ci 0)]
def kr3 : List ah:=gS 11 [.mv 0,.mv 1,.aO 11,.aj 20 13]++[⟨none,.store 1 14 12,none⟩]
def c62 : fJ:=⟨15,.seq (.reg ke3) (.seq (.reg ka3) (.cond 10 (.reg kr3) (.skip))),[]⟩
theorem do2 : fD Tryz.prog 62=some c62.er:=by kernel_rfl
def kn3 : List ah:=gS 5 [.box 58 2]
def kt3 : List ah:=gS 6 [.mv 0,.aO 6,.aj 16 7,.load 1 false 8,.un .not 9]
def kl3 : List ah:=gS 11 [.mv 0,.mv 0,.mv 0,.mv 0,.aj 3 5,.load 1 false 15,.aj 4 5,.load 2 true 17,.aj 6 5,.load 2 true 19,.aO 11,.aj 16 21]++[⟨none,.store 1 22 (cB true),none⟩]++gS 23 [.aO 12,.aj 0 23,.aj 4 24]++[⟨none,.store 1 25 16,none⟩]++gS 26 [.aO 13,.aj 0 26,.aj 5 27]++[⟨none,.store 2 28 18,none⟩]++gS 29 [.aO 14,.aj 0 29,.aj 7 30]++[⟨none,.store 2 31 20,none⟩]
def c63 : fJ:=⟨32,.seq (.reg kn3) (.seq (.reg kt3) (.cond 10 (.hys true true 21 kl3) (.skip))),[]⟩
theorem di2 : fD Tryz.prog 63=some c63.er:=by kernel_rfl
def kd3 : List ah:=gS 5 [.box 58 2]
def kc3 : List ah:=gS 6 [.mv 0,.aO 6,.aj 17 7,.load 1 false 8,.un .not 9]
def km3 : List ah:=gS 11 [.mv 0,.mv 0,.mv 0,.aj 4 5,.load 2 true 14,.aj 6 5,.load 2 true 16,.aO 11,.aj 17 18]++[⟨none,.store 1 19 (cB true),none⟩]++gS 20 [.aO 12,.aj 0 20,.aj 9 21]++[⟨none,.store 2 22 15,none⟩]++gS 23 [.aO 13,.aj 0 23,.aj 11 24]++[⟨none,.store 2 25 17,none⟩]
def c64 : fJ:=⟨26,.seq (.reg kd3) (.seq (.reg kc3) (.cond 10 (.hys true true 14 km3) (.skip))),[]⟩
theorem de2 : fD Tryz.prog 64=some c64.er:=by kernel_rfl
def kf3 : List ah:=gS 5 [.box 58 2]
def kh3 : List ah:=gS 6 [.mv 0,.aO 6,.aj 18 7,.load 1 false 8,.un .not 9]
def kp3 : List ah:=gS 11 [.mv 0,.mv 0,.aj 4 5,.load 2 true 13,.aO 11,.aj 18 15]++[⟨none,.store 1 16 (cB true),none⟩]++gS 17 [.aO 12,.aj 0 17,.aj 13 18]++[⟨none,.store 2 19 14,none⟩]
def c65 : fJ:=⟨20,.seq (.reg kf3) (.seq (.reg kh3) (.cond 10 (.hys true true 7 kp3) (.skip))),[]⟩
theorem da2 : fD Tryz.prog 65=some c65.er:=by kernel_rfl
def kg3 : List ah:=gS 4 [.box 58 1]
def kb3 : List ah:=gS 5 [.load 1 false 2,.aO 5,.aj 0 6,.aj 1 7]++[⟨none,.store 1 8 (cB true),none⟩]
def c66 : fJ:=⟨9,.seq (.reg kg3) (.reg kb3),[]⟩
theorem dr2 : fD Tryz.prog 66=some c66.er:=by kernel_rfl
def ky3 : List ah:=gS 4 [.box 58 1]
def kw3 : List ah:=gS 5 [.load 1 false 2,.aO 5,.aj 0 6,.aj 2 7]++[⟨none,.store 1 8 (cB true),none⟩]
def c67 : fJ:=⟨9,.seq (.reg ky3) (.reg kw3),[]⟩
theorem dn2 : fD Tryz.prog 67=some c67.er:=by kernel_rfl
def se3 : List ah:=gS 2 [.box 24 0,.box 32 1,.alloc 44 (.agg #[(.bool false),(.bool false),(.bool false),oz,oz,oz,oz,oz,oz,oz,oz,oz,oz,oz,oz,oz])]
def sa3 : List ah:=gS 11 [.build (.agg #[oz,oz]) [((1,1),(ci 1))]]++gS 5 [.alloc 42 (.agg #[oz,oz])]++[⟨none,.store 2 5 11,none⟩]
def sr3 : List ah:=gS 12 [.load 2 true 5,.load 2 true 5,.load 2 true 5,.load 2 true 5,.load 2 true 5,.build (.agg #[(.bool false),(.bool false),(.bool false),oz,oz,oz,oz,oz,oz,oz,oz,oz,oz,oz,oz,oz]) [((5,2),12),((7,2),13),((9,2),14),((11,2),15),((13,2),16)],.build (.agg #[(.bool false),(.bool false),(.bool false),oz,oz,oz,oz,oz,oz,oz,oz,oz,oz,oz,oz,oz,(.bool false),(.bool false),(.bool false),oz,oz]) [((19,1),(ci (-1))),((20,1),(ci (-1))),((0,16),17)],.box 111 18]++gS 6 [.alloc 109 (.pointer none)]++[⟨none,.store 1 6 19,none⟩]
def sn3 : List ah:=gS 20 [.Si (.int .i64),.load 1 false 6,.jE (.func 61) [21] []]++[⟨none,.lq (.int .i64) false 20 (ci 1) 22,none⟩]++gS 23 [.load 1 false 6,.jE (.func 62) [23] []]++[⟨none,.lq (.int .i64) false 20 (ci 2) 24,none⟩]++gS 25 [.load 1 false 6,.jE (.func 63) [25] []]++[⟨none,.lq (.int .i64) false 20 (ci 3) 26,none⟩]++gS 27 [.load 1 false 6,.jE (.func 64) [27] []]++[⟨none,.lq (.int .i64) false 20 (ci 4) 28,none⟩]++gS 29 [.load 1 false 6,.jE (.func 65) [29] []]++[⟨none,.lq (.int .i64) false 20 (ci 5) 30,none⟩]++gS 31 [.jE (.func 66) [] [6]]++[⟨none,.lq (.int .i64) false 20 (ci 6) 31,none⟩]++gS 32 [.jE (.func 67) [] [6]]++[⟨none,.lq (.int .i64) false 20 (ci 7) 32,none⟩]++gS 33 [.mv 20]++gS 7 [.mv 33]
def ss3 : List ah:=gS 34 [.aj 0 2,.load 1 false 34,.len false 35,.mv (ci 0)]
def st3 : List ah:=gS 38 [.bin .lss 37 36]
def sd3 : List ah:=gS 39 [.mv 37,.aQ 8 35 37,.load 8 true 40]++gS 9 [.alloc 58 (.agg #[oz,(.string ⟨#[]⟩),(.slice none 0 0),oz,oz,oz,oz,oz])]++gS 8 [.mv 39]++[⟨none,.store 8 9 41,none⟩]
def sc3 : List ah:=gS 42 [.mv 7,.aj 0 9,.load 1 false 43,.lI (.int .i64) false false .nilFunc 42 44]++gS 10 [.mv 45]
def sm3 : List ah:=gS 46 [.mv 10,.wB true 46 (.const .nilFunc),.mv 47]++gQ 48 true 49 [.load 8 true 9,.load 10 true 3,.call 68 [49,50]]++gS 52 [.pick 48 51 (cB false)]
def sh3 : List ah:=gS 53 [.mv 10,.mv 8,.load 8 true 9,.fZ 53 [54,55]]
def mm2 : List ah:=gS 57 [.bin .add 37 (ci 1)]++gS 37 [.mv 57]
def mc2 : DE:=.seq (.reg st3) (.seq (.cond 38 (.skip) (.exit 0)) (.join (.block 1 (.seq (.reg sd3) (.seq (.reg sc3) (.join (.reg sm3) (.cond 52 (.reg sh3) (.skip)))))) (.reg mm2)))
def mh2 : List ah:=gS 58 [.load 1 false 6,.load 1 false 6,.aO 59,.aj 19 60,.load 1 false 61,.bin .geq 62 (ci 0),.mv 63]++gQ 64 true 65 [.load 1 false 6,.aO 65,.aj 16 66,.load 1 false 67]++gS 69 [.pick 64 68 (cB false),.mv 69]++gQ 70 true 71 [.load 1 false 6,.aO 71,.aj 20 72,.load 1 false 73,.bin .lss 74 (ci 0)]++gS 76 [.pick 70 75 (cB false),.aO 58,.aj 0 77,.aj 0 78]
def vk2 : ah:=⟨none,.store 1 79 76,none⟩
def mp2 : List ah:=gS 80 [.load 1 false 6,.load 1 false 6,.aO 81,.aj 19 82,.load 1 false 83,.aO 80,.aj 0 85,.aj 15 86]
def vx2 : ah:=⟨none,.store 1 87 84,none⟩
def mg2 : List ah:=gS 88 [.load 1 false 6,.aO 88,.aj 20 89,.load 1 false 90,.bin .geq 91 (ci 0)]
def mb2 : List ah:=gS 93 [.load 1 false 6,.load 1 false 6,.aO 94,.aj 20 95,.load 1 false 96,.aO 93,.aj 0 98,.aj 15 99]
def vj2 : ah:=⟨none,.store 1 100 97,none⟩
def my2 : List ah:=gS 101 [.load 1 false 6,.aO 101,.aj 0 102,.load 16 true 103]++[⟨none,.store 16 4 104,none⟩]
def c31 : fJ:=⟨105,.seq (.reg se3) (.seq (.reg sa3) (.seq (.reg sr3) (.seq (.reg sn3) (.join (.seq (.reg ss3) (.block 0 (.loop mc2))) (.join (.hyl true true 19 mh2 vk2) (.seq (.hyl true true 5 mp2 vx2) (.join (.seq (.reg mg2) (.cond 92 (.hyl true true 5 mb2 vj2) (.skip))) (.seq (.reg my2) (.ret))))))))),[.cell 4 16 true]⟩
theorem md2 : fD Tryz.prog 31=some c31.er:=by kernel_rfl
set_option maxHeartbeats 4000000 in
theorem ce0 {P:Program}(hP:P=Tryz.prog)(p:au)(f:(aF Int))(r:Decision)(h:PX p f=some r):Fn1 P 31 [BA p,H9 f] (ZR r):=by
 refine .mJ (hP▸md2) fun K hK=>?_;unfold PX at h;cbv;refine .g h (fun ((iR,kR,nU,nT,Bf,Bj,Bc,Bh,Ba,vI,uU,vH,uT,vG,jB,ql,rH,iq,iI):Bool×Bool×Int×Int×Int×Int×Int×Int×Int×Int×Int×Int×Int×Int×Bool×Bool×Bool×Int×Int)=>rp 4 .top++[.ptr 0 0,.top,.ptr 1 0]++rp 98 .top) (fun (iR,kR,nU,nT,Bf,Bj,Bc,Bh,Ba,vI,uU,vH,uT,vG,jB,ql,rH,iq,iI)=>[.cells dz 44,.cells [.ptr 2 0] 109,.cells [ob false,ob iR,ob kR,oi nU,oi nT,oi Bf,oi Bj,oi Bc,oi Bh,oi Ba,oi vI,oi uU,oi vH,oi uT,oi vG,oi 0,ob jB,ob ql,ob rH,oi iq,oi iI] 111]) (fun y hm Kn1 aC=>?_) fun t h=>?_
 ·have h:=hm;clear hm;cbv;refine .g h (fun ((aK,aX,bf,bF,bZ,cO,bY,cu,dR,dU,cZ,dh,dQ,dS,aV,bM,bP,aS,aW,v39):Bool×Bool×Int×Int×Int×Int×Int×Int×Int×Int×Int×Int×Int×Int×Bool×Bool×Bool×Int×Int×Int)=>rp 3 .top++[.ptr 0 0,.ptr 1 0,.top,.ptr 2 0,.hd 4]++rp 27 .top++[dq aZ p.Rules,oi (io.len (W aZ p.Rules)),oi v39]++rp 67 .top) (fun (aK,aX,bf,bF,bZ,cO,bY,cu,dR,dU,cZ,dh,dQ,dS,aV,bM,bP,aS,aW,v39)=>[.cells (ca f) 32,.cells dz 44,.cells [.ptr 3 0] 109,.cells [ob false,ob aK,ob aX,oi bf,oi bF,oi bZ,oi cO,oi bY,oi cu,oi dR,oi dU,oi cZ,oi dh,oi dQ,oi dS,oi 0,ob aV,ob bM,ob bP,oi aS,oi aW] 111,.kC (.int .i64) [((Value.int .i64) 1,.clo (.func 61) [.ptr 3 0] []),((Value.int .i64) 2,.clo (.func 62) [.ptr 3 0] []),((Value.int .i64) 3,.clo (.func 63) [.ptr 3 0] []),((Value.int .i64) 4,.clo (.func 64) [.ptr 3 0] []),((Value.int .i64) 5,.clo (.func 65) [.ptr 3 0] []),((Value.int .i64) 6,.clo (.func 66) [] [.ptr 2 0]),((Value.int .i64) 7,.clo (.func 67) [] [.ptr 2 0])]]) (.nz (.aB [1,2,5,4,6] ?_)) fun s x h hr2 Kn2 bg=>?_
  ·exact mx
  unfold Tt at h;obtain⟨aK,aX,bf,bF,bZ,cO,bY,cu,dR,dU,cZ,dh,dQ,dS,aV,bM,bP,aS,aW,v39⟩:=s;cbv;refine aG h ?_ ?_<;>intro h
  ·cbv;refine .g h (fun ((jL,lM,o9,oU,zh,zy,zf,zx,yZ,zu,yY,zq,yX,zo,lg,tZ,uQ,kF,lJ):Bool×Bool×Int×Int×Int×Int×Int×Int×Int×Int×Int×Int×Int×Int×Bool×Bool×Bool×Int×Int)=>rp 3 .top++[.ptr 0 0,.ptr 1 0,.top,.ptr 2 0,.hd 4]++rp 27 .top++[dq aZ p.Rules,oi (io.len (W aZ p.Rules)),oi v39]++rp 67 .top) (fun (jL,lM,o9,oU,zh,zy,zf,zx,yZ,zu,yY,zq,yX,zo,lg,tZ,uQ,kF,lJ)=>[.cells (ca f) 32,.cells dz 44,.cells [.ptr 3 0] 109,.cells [ob false,ob jL,ob lM,oi o9,oi oU,oi zh,oi zy,oi zf,oi zx,oi yZ,oi zu,oi yY,oi zq,oi yX,oi zo,oi 0,ob lg,ob tZ,ob uQ,oi kF,oi lJ] 111,.kC (.int .i64) [((Value.int .i64) 1,.clo (.func 61) [.ptr 3 0] []),((Value.int .i64) 2,.clo (.func 62) [.ptr 3 0] []),((Value.int .i64) 3,.clo (.func 63) [.ptr 3 0] []),((Value.int .i64) 4,.clo (.func 64) [.ptr 3 0] []),((Value.int .i64) 5,.clo (.func 65) [.ptr 3 0] []),((Value.int .i64) 6,.clo (.func 66) [] [.ptr 2 0]),((Value.int .i64) 7,.clo (.func 67) [] [.ptr 2 0])]]) (fun y hm Kn3 aP=>?_) fun t h=>?_
   ·have h:=hm;clear hm;cbv;refine .g h (fun _=>rfl) fun bW h=>?_;cbv;refine aG h ?_ ?_<;>intro h
    ·cbv;refine .g h (fun (v60:Bool)=>rp 3 .top++[.ptr 0 0,.ptr 1 0,.top,.ptr 2 0,.hd 4,oi v39,.ptr 5 0,.clo (.func 61) [.ptr 3 0] []]++rp 24 .top++[dq aZ p.Rules,oi (io.len (W aZ p.Rules)),oi v39]++rp 14 .top++[ob v60]++rp 52 .top) (fun v60=>[.cells (ca f) 32,.cells dz 44,.cells [.ptr 3 0] 109,.cells [ob false,ob aK,ob aX,oi bf,oi bF,oi bZ,oi cO,oi bY,oi cu,oi dR,oi dU,oi cZ,oi dh,oi dQ,oi dS,oi 0,ob aV,ob bM,ob bP,oi aS,oi aW] 111,.kC (.int .i64) [((Value.int .i64) 1,.clo (.func 61) [.ptr 3 0] []),((Value.int .i64) 2,.clo (.func 62) [.ptr 3 0] []),((Value.int .i64) 3,.clo (.func 63) [.ptr 3 0] []),((Value.int .i64) 4,.clo (.func 64) [.ptr 3 0] []),((Value.int .i64) 5,.clo (.func 65) [.ptr 3 0] []),((Value.int .i64) 6,.clo (.func 66) [] [.ptr 2 0]),((Value.int .i64) 7,.clo (.func 67) [] [.ptr 2 0])],.cells [oi bW.Kind,.d (.val (.string bW.Name)),dq dD bW.ay,oi bW.N,oi bW.R.Num,oi bW.R.Den,oi bW.S.Num,oi bW.S.Den] 58]) (fun y hm ku aY=>?_) fun t h=>?_
     ·have h:=hm;clear hm;cbv;refine .g h (fun v hv=>KH hP _ _ v hv) aJ rfl (fun _=>rfl) fun v61 h=>?_;cbv;obtain rfl:=oj h;exact aY _ _ _ rfl (.nz (.aB [0,1,2,3,4,5] mx))
     obtain⟨v60,rfl⟩:=ez t;cbv;refine aG h ?_ ?_<;>intro h
     ·cbv;refine .inl (hP▸du2) ?_;cbv;refine .g h (fun (iQ:Int)=>[.ptr 3 0]++rp 4 .top++[.ptr 6 0]++rp 36 .top) (fun iQ=>[.cells (ca f) 32,.cells dz 44,.cells [.ptr 3 0] 109,.cells [ob false,ob aK,ob aX,oi bf,oi bF,oi bZ,oi cO,oi bY,oi cu,oi dR,oi dU,oi cZ,oi dh,oi dQ,oi dS,oi 0,ob aV,ob bM,ob bP,oi iQ,oi aW] 111,.kC (.int .i64) [((Value.int .i64) 1,.clo (.func 61) [.ptr 3 0] []),((Value.int .i64) 2,.clo (.func 62) [.ptr 3 0] []),((Value.int .i64) 3,.clo (.func 63) [.ptr 3 0] []),((Value.int .i64) 4,.clo (.func 64) [.ptr 3 0] []),((Value.int .i64) 5,.clo (.func 65) [.ptr 3 0] []),((Value.int .i64) 6,.clo (.func 66) [] [.ptr 2 0]),((Value.int .i64) 7,.clo (.func 67) [] [.ptr 2 0])],.cells [oi bW.Kind,.d (.val (.string bW.Name)),dq dD bW.ay,oi bW.N,oi bW.R.Num,oi bW.R.Den,oi bW.S.Num,oi bW.S.Den] 58,.cells [oi bW.Kind,.d (.val (.string bW.Name)),dq dD bW.ay,oi bW.N,oi bW.R.Num,oi bW.R.Den,oi bW.S.Num,oi bW.S.Den] 58]) (fun y hm ku aY=>?_) fun t h=>?_
      ·have h:=hm;clear hm;cbv;refine aG h ?_ ?_<;>intro h
       ·cbv;obtain rfl:=oj h;exact aY _ _ _ rfl (.nz (.aB [0,1,2,3,4,5,6] mx))
       ·cbv;obtain rfl:=oj h;exact aY _ _ _ rfl (.nz (.aB [0,1,2,3,4,5,6] mx))
      obtain⟨iQ,rfl⟩:=ez t;cbv;refine .g h (fun (v63:Bool)=>[.ptr 3 0]++rp 4 .top++[.ptr 6 0]++rp 29 .top++[ob v63]++rp 6 .top) (fun v63=>[.cells (ca f) 32,.cells dz 44,.cells [.ptr 3 0] 109,.cells [ob false,ob aK,ob aX,oi bf,oi bF,oi bZ,oi cO,oi bY,oi cu,oi dR,oi dU,oi cZ,oi dh,oi dQ,oi dS,oi 0,ob aV,ob bM,ob bP,oi iQ,oi aW] 111,.kC (.int .i64) [((Value.int .i64) 1,.clo (.func 61) [.ptr 3 0] []),((Value.int .i64) 2,.clo (.func 62) [.ptr 3 0] []),((Value.int .i64) 3,.clo (.func 63) [.ptr 3 0] []),((Value.int .i64) 4,.clo (.func 64) [.ptr 3 0] []),((Value.int .i64) 5,.clo (.func 65) [.ptr 3 0] []),((Value.int .i64) 6,.clo (.func 66) [] [.ptr 2 0]),((Value.int .i64) 7,.clo (.func 67) [] [.ptr 2 0])],.cells [oi bW.Kind,.d (.val (.string bW.Name)),dq dD bW.ay,oi bW.N,oi bW.R.Num,oi bW.R.Den,oi bW.S.Num,oi bW.S.Den] 58,.cells [oi bW.Kind,.d (.val (.string bW.Name)),dq dD bW.ay,oi bW.N,oi bW.R.Num,oi bW.R.Den,oi bW.S.Num,oi bW.S.Den] 58]) (fun y hm ku aY=>?_) fun t h=>?_
      ·have h:=hm;clear hm;cbv;refine aG h ?_ ?_<;>intro h
       ·cbv;refine aG h ?_ ?_<;>intro h
        ·cbv;obtain rfl:=oj h;exact aY _ _ _ rfl (.nz (.aB [0,1,2,3,4,5,6] mx))
        ·cbv;obtain rfl:=oj h;exact aY _ _ _ rfl (.nz (.aB [0,1,2,3,4,5,6] mx))
       ·cbv;obtain rfl:=oj h;exact aY _ _ _ rfl (.nz (.aB [0,1,2,3,4,5,6] mx))
      obtain⟨v63,rfl⟩:=ez t;cbv;refine aG h ?_ ?_<;>intro h
      ·cbv;obtain rfl:=oj h;exact aP _ _ _ rfl (.nz (.aB [0,1,2,3,4] mx))
      ·cbv;obtain rfl:=oj h;exact aP _ _ _ rfl (.nz (.aB [0,1,2,3,4] mx))
     ·cbv;obtain rfl:=oj h;exact aP _ _ _ rfl (.nz (.aB [0,1,2,3,4] mx))
    ·cbv;refine aG h ?_ ?_<;>intro h
     ·cbv;refine .g h (fun (v64:Bool)=>rp 3 .top++[.ptr 0 0,.ptr 1 0,.top,.ptr 2 0,.hd 4,oi v39,.ptr 5 0,.clo (.func 62) [.ptr 3 0] []]++rp 24 .top++[dq aZ p.Rules,oi (io.len (W aZ p.Rules)),oi v39]++rp 14 .top++[ob v64]++rp 52 .top) (fun v64=>[.cells (ca f) 32,.cells dz 44,.cells [.ptr 3 0] 109,.cells [ob false,ob aK,ob aX,oi bf,oi bF,oi bZ,oi cO,oi bY,oi cu,oi dR,oi dU,oi cZ,oi dh,oi dQ,oi dS,oi 0,ob aV,ob bM,ob bP,oi aS,oi aW] 111,.kC (.int .i64) [((Value.int .i64) 1,.clo (.func 61) [.ptr 3 0] []),((Value.int .i64) 2,.clo (.func 62) [.ptr 3 0] []),((Value.int .i64) 3,.clo (.func 63) [.ptr 3 0] []),((Value.int .i64) 4,.clo (.func 64) [.ptr 3 0] []),((Value.int .i64) 5,.clo (.func 65) [.ptr 3 0] []),((Value.int .i64) 6,.clo (.func 66) [] [.ptr 2 0]),((Value.int .i64) 7,.clo (.func 67) [] [.ptr 2 0])],.cells [oi bW.Kind,.d (.val (.string bW.Name)),dq dD bW.ay,oi bW.N,oi bW.R.Num,oi bW.R.Den,oi bW.S.Num,oi bW.S.Den] 58]) (fun y hm ku aY=>?_) fun t h=>?_
      ·have h:=hm;clear hm;cbv;refine .g h (fun v hv=>KH hP _ _ v hv) aJ rfl (fun _=>rfl) fun v65 h=>?_;cbv;obtain rfl:=oj h;exact aY _ _ _ rfl (.nz (.aB [0,1,2,3,4,5] mx))
      obtain⟨v64,rfl⟩:=ez t;cbv;refine aG h ?_ ?_<;>intro h
      ·cbv;refine .inl (hP▸do2) ?_;cbv;refine aG h ?_ ?_<;>intro h
       ·cbv;obtain rfl:=oj h;exact aP _ _ _ rfl (.nz (.aB [0,1,2,3,4] mx))
       ·cbv;obtain rfl:=oj h;exact aP _ _ _ rfl (.nz (.aB [0,1,2,3,4] mx))
      ·cbv;obtain rfl:=oj h;exact aP _ _ _ rfl (.nz (.aB [0,1,2,3,4] mx))
     ·cbv;refine aG h ?_ ?_<;>intro h
      ·cbv;refine .g h (fun (v66:Bool)=>rp 3 .top++[.ptr 0 0,.ptr 1 0,.top,.ptr 2 0,.hd 4,oi v39,.ptr 5 0,.clo (.func 63) [.ptr 3 0] []]++rp 24 .top++[dq aZ p.Rules,oi (io.len (W aZ p.Rules)),oi v39]++rp 14 .top++[ob v66]++rp 52 .top) (fun v66=>[.cells (ca f) 32,.cells dz 44,.cells [.ptr 3 0] 109,.cells [ob false,ob aK,ob aX,oi bf,oi bF,oi bZ,oi cO,oi bY,oi cu,oi dR,oi dU,oi cZ,oi dh,oi dQ,oi dS,oi 0,ob aV,ob bM,ob bP,oi aS,oi aW] 111,.kC (.int .i64) [((Value.int .i64) 1,.clo (.func 61) [.ptr 3 0] []),((Value.int .i64) 2,.clo (.func 62) [.ptr 3 0] []),((Value.int .i64) 3,.clo (.func 63) [.ptr 3 0] []),((Value.int .i64) 4,.clo (.func 64) [.ptr 3 0] []),((Value.int .i64) 5,.clo (.func 65) [.ptr 3 0] []),((Value.int .i64) 6,.clo (.func 66) [] [.ptr 2 0]),((Value.int .i64) 7,.clo (.func 67) [] [.ptr 2 0])],.cells [oi bW.Kind,.d (.val (.string bW.Name)),dq dD bW.ay,oi bW.N,oi bW.R.Num,oi bW.R.Den,oi bW.S.Num,oi bW.S.Den] 58]) (fun y hm ku aY=>?_) fun t h=>?_
       ·have h:=hm;clear hm;cbv;refine .g h (fun v hv=>KH hP _ _ v hv) aJ rfl (fun _=>rfl) fun v67 h=>?_;cbv;obtain rfl:=oj h;exact aY _ _ _ rfl (.nz (.aB [0,1,2,3,4,5] mx))
       obtain⟨v66,rfl⟩:=ez t;cbv;refine aG h ?_ ?_<;>intro h
       ·cbv;refine .inl (hP▸di2) ?_;cbv;refine aG h ?_ ?_<;>intro h
        ·cbv;refine .g [3] ?_;cbv;obtain rfl:=oj h;exact aP _ _ _ rfl (.nz (.aB [0,1,2,3,4] mx))
        ·cbv;obtain rfl:=oj h;exact aP _ _ _ rfl (.nz (.aB [0,1,2,3,4] mx))
       ·cbv;obtain rfl:=oj h;exact aP _ _ _ rfl (.nz (.aB [0,1,2,3,4] mx))
      ·cbv;refine aG h ?_ ?_<;>intro h
       ·cbv;refine .g h (fun (v68:Bool)=>rp 3 .top++[.ptr 0 0,.ptr 1 0,.top,.ptr 2 0,.hd 4,oi v39,.ptr 5 0,.clo (.func 64) [.ptr 3 0] []]++rp 24 .top++[dq aZ p.Rules,oi (io.len (W aZ p.Rules)),oi v39]++rp 14 .top++[ob v68]++rp 52 .top) (fun v68=>[.cells (ca f) 32,.cells dz 44,.cells [.ptr 3 0] 109,.cells [ob false,ob aK,ob aX,oi bf,oi bF,oi bZ,oi cO,oi bY,oi cu,oi dR,oi dU,oi cZ,oi dh,oi dQ,oi dS,oi 0,ob aV,ob bM,ob bP,oi aS,oi aW] 111,.kC (.int .i64) [((Value.int .i64) 1,.clo (.func 61) [.ptr 3 0] []),((Value.int .i64) 2,.clo (.func 62) [.ptr 3 0] []),((Value.int .i64) 3,.clo (.func 63) [.ptr 3 0] []),((Value.int .i64) 4,.clo (.func 64) [.ptr 3 0] []),((Value.int .i64) 5,.clo (.func 65) [.ptr 3 0] []),((Value.int .i64) 6,.clo (.func 66) [] [.ptr 2 0]),((Value.int .i64) 7,.clo (.func 67) [] [.ptr 2 0])],.cells [oi bW.Kind,.d (.val (.string bW.Name)),dq dD bW.ay,oi bW.N,oi bW.R.Num,oi bW.R.Den,oi bW.S.Num,oi bW.S.Den] 58]) (fun y hm ku aY=>?_) fun t h=>?_
        ·have h:=hm;clear hm;cbv;refine .g h (fun v hv=>KH hP _ _ v hv) aJ rfl (fun _=>rfl) fun v69 h=>?_;cbv;obtain rfl:=oj h;exact aY _ _ _ rfl (.nz (.aB [0,1,2,3,4,5] mx))
        obtain⟨v68,rfl⟩:=ez t;cbv;refine aG h ?_ ?_<;>intro h
        ·cbv;refine .inl (hP▸de2) ?_;cbv;refine aG h ?_ ?_<;>intro h
         ·cbv;refine .g [3] ?_;cbv;obtain rfl:=oj h;exact aP _ _ _ rfl (.nz (.aB [0,1,2,3,4] mx))
         ·cbv;obtain rfl:=oj h;exact aP _ _ _ rfl (.nz (.aB [0,1,2,3,4] mx))
        ·cbv;obtain rfl:=oj h;exact aP _ _ _ rfl (.nz (.aB [0,1,2,3,4] mx))
       ·cbv;refine aG h ?_ ?_<;>intro h
        ·cbv;refine .g h (fun (v70:Bool)=>rp 3 .top++[.ptr 0 0,.ptr 1 0,.top,.ptr 2 0,.hd 4,oi v39,.ptr 5 0,.clo (.func 65) [.ptr 3 0] []]++rp 24 .top++[dq aZ p.Rules,oi (io.len (W aZ p.Rules)),oi v39]++rp 14 .top++[ob v70]++rp 52 .top) (fun v70=>[.cells (ca f) 32,.cells dz 44,.cells [.ptr 3 0] 109,.cells [ob false,ob aK,ob aX,oi bf,oi bF,oi bZ,oi cO,oi bY,oi cu,oi dR,oi dU,oi cZ,oi dh,oi dQ,oi dS,oi 0,ob aV,ob bM,ob bP,oi aS,oi aW] 111,.kC (.int .i64) [((Value.int .i64) 1,.clo (.func 61) [.ptr 3 0] []),((Value.int .i64) 2,.clo (.func 62) [.ptr 3 0] []),((Value.int .i64) 3,.clo (.func 63) [.ptr 3 0] []),((Value.int .i64) 4,.clo (.func 64) [.ptr 3 0] []),((Value.int .i64) 5,.clo (.func 65) [.ptr 3 0] []),((Value.int .i64) 6,.clo (.func 66) [] [.ptr 2 0]),((Value.int .i64) 7,.clo (.func 67) [] [.ptr 2 0])],.cells [oi bW.Kind,.d (.val (.string bW.Name)),dq dD bW.ay,oi bW.N,oi bW.R.Num,oi bW.R.Den,oi bW.S.Num,oi bW.S.Den] 58]) (fun y hm ku aY=>?_) fun t h=>?_
         ·have h:=hm;clear hm;cbv;refine .g h (fun v hv=>KH hP _ _ v hv) aJ rfl (fun _=>rfl) fun v71 h=>?_;cbv;obtain rfl:=oj h;exact aY _ _ _ rfl (.nz (.aB [0,1,2,3,4,5] mx))
         obtain⟨v70,rfl⟩:=ez t;cbv;refine aG h ?_ ?_<;>intro h
         ·cbv;refine .inl (hP▸da2) ?_;cbv;refine aG h ?_ ?_<;>intro h
          ·cbv;refine .g [3] ?_;cbv;obtain rfl:=oj h;exact aP _ _ _ rfl (.nz (.aB [0,1,2,3,4] mx))
          ·cbv;obtain rfl:=oj h;exact aP _ _ _ rfl (.nz (.aB [0,1,2,3,4] mx))
         ·cbv;obtain rfl:=oj h;exact aP _ _ _ rfl (.nz (.aB [0,1,2,3,4] mx))
        ·cbv;refine aG h ?_ ?_<;>intro h
         ·cbv;refine .g h (fun (v72:Bool)=>rp 3 .top++[.ptr 0 0,.ptr 1 0,.top,.ptr 2 0,.hd 4,oi v39,.ptr 5 0,.clo (.func 66) [] [.ptr 2 0]]++rp 24 .top++[dq aZ p.Rules,oi (io.len (W aZ p.Rules)),oi v39]++rp 14 .top++[ob v72]++rp 52 .top) (fun v72=>[.cells (ca f) 32,.cells dz 44,.cells [.ptr 3 0] 109,.cells [ob false,ob aK,ob aX,oi bf,oi bF,oi bZ,oi cO,oi bY,oi cu,oi dR,oi dU,oi cZ,oi dh,oi dQ,oi dS,oi 0,ob aV,ob bM,ob bP,oi aS,oi aW] 111,.kC (.int .i64) [((Value.int .i64) 1,.clo (.func 61) [.ptr 3 0] []),((Value.int .i64) 2,.clo (.func 62) [.ptr 3 0] []),((Value.int .i64) 3,.clo (.func 63) [.ptr 3 0] []),((Value.int .i64) 4,.clo (.func 64) [.ptr 3 0] []),((Value.int .i64) 5,.clo (.func 65) [.ptr 3 0] []),((Value.int .i64) 6,.clo (.func 66) [] [.ptr 2 0]),((Value.int .i64) 7,.clo (.func 67) [] [.ptr 2 0])],.cells [oi bW.Kind,.d (.val (.string bW.Name)),dq dD bW.ay,oi bW.N,oi bW.R.Num,oi bW.R.Den,oi bW.S.Num,oi bW.S.Den] 58]) (fun y hm ku aY=>?_) fun t h=>?_
          ·have h:=hm;clear hm;cbv;refine .g h (fun v hv=>KH hP _ _ v hv) aJ rfl (fun _=>rfl) fun v73 h=>?_;cbv;obtain rfl:=oj h;exact aY _ _ _ rfl (.nz (.aB [0,1,2,3,4,5] mx))
          obtain⟨v72,rfl⟩:=ez t;cbv;refine aG h ?_ ?_<;>intro h
          ·cbv;refine .inl (hP▸dr2) ?_;cbv;obtain rfl:=oj h;exact aP _ _ _ rfl (.nz (.aB [0,1,2,3,4] mx))
          ·cbv;obtain rfl:=oj h;exact aP _ _ _ rfl (.nz (.aB [0,1,2,3,4] mx))
         ·cbv;refine aG h ?_ ?_<;>intro h
          ·cbv;refine .g h (fun (v74:Bool)=>rp 3 .top++[.ptr 0 0,.ptr 1 0,.top,.ptr 2 0,.hd 4,oi v39,.ptr 5 0,.clo (.func 67) [] [.ptr 2 0]]++rp 24 .top++[dq aZ p.Rules,oi (io.len (W aZ p.Rules)),oi v39]++rp 14 .top++[ob v74]++rp 52 .top) (fun v74=>[.cells (ca f) 32,.cells dz 44,.cells [.ptr 3 0] 109,.cells [ob false,ob aK,ob aX,oi bf,oi bF,oi bZ,oi cO,oi bY,oi cu,oi dR,oi dU,oi cZ,oi dh,oi dQ,oi dS,oi 0,ob aV,ob bM,ob bP,oi aS,oi aW] 111,.kC (.int .i64) [((Value.int .i64) 1,.clo (.func 61) [.ptr 3 0] []),((Value.int .i64) 2,.clo (.func 62) [.ptr 3 0] []),((Value.int .i64) 3,.clo (.func 63) [.ptr 3 0] []),((Value.int .i64) 4,.clo (.func 64) [.ptr 3 0] []),((Value.int .i64) 5,.clo (.func 65) [.ptr 3 0] []),((Value.int .i64) 6,.clo (.func 66) [] [.ptr 2 0]),((Value.int .i64) 7,.clo (.func 67) [] [.ptr 2 0])],.cells [oi bW.Kind,.d (.val (.string bW.Name)),dq dD bW.ay,oi bW.N,oi bW.R.Num,oi bW.R.Den,oi bW.S.Num,oi bW.S.Den] 58]) (fun y hm ku aY=>?_) fun t h=>?_
           ·have h:=hm;clear hm;cbv;refine .g h (fun v hv=>KH hP _ _ v hv) aJ rfl (fun _=>rfl) fun v75 h=>?_;cbv;obtain rfl:=oj h;exact aY _ _ _ rfl (.nz (.aB [0,1,2,3,4,5] mx))
           obtain⟨v74,rfl⟩:=ez t;cbv;refine aG h ?_ ?_<;>intro h
           ·cbv;refine .inl (hP▸dn2) ?_;cbv;obtain rfl:=oj h;exact aP _ _ _ rfl (.nz (.aB [0,1,2,3,4] mx))
           ·cbv;obtain rfl:=oj h;exact aP _ _ _ rfl (.nz (.aB [0,1,2,3,4] mx))
          ·cbv;refine .g h (fun (_:Unit)=>rp 3 .top++[.ptr 0 0,.ptr 1 0,.top,.ptr 2 0,.hd 4,oi v39,.ptr 5 0,.d (.val .nilFunc)]++rp 24 .top++[dq aZ p.Rules,oi (io.len (W aZ p.Rules)),oi v39]++rp 14 .top++[ob false]++rp 52 .top) (fun _=>[.cells (ca f) 32,.cells dz 44,.cells [.ptr 3 0] 109,.cells [ob false,ob aK,ob aX,oi bf,oi bF,oi bZ,oi cO,oi bY,oi cu,oi dR,oi dU,oi cZ,oi dh,oi dQ,oi dS,oi 0,ob aV,ob bM,ob bP,oi aS,oi aW] 111,.kC (.int .i64) [((Value.int .i64) 1,.clo (.func 61) [.ptr 3 0] []),((Value.int .i64) 2,.clo (.func 62) [.ptr 3 0] []),((Value.int .i64) 3,.clo (.func 63) [.ptr 3 0] []),((Value.int .i64) 4,.clo (.func 64) [.ptr 3 0] []),((Value.int .i64) 5,.clo (.func 65) [.ptr 3 0] []),((Value.int .i64) 6,.clo (.func 66) [] [.ptr 2 0]),((Value.int .i64) 7,.clo (.func 67) [] [.ptr 2 0])],.cells [oi bW.Kind,.d (.val (.string bW.Name)),dq dD bW.ay,oi bW.N,oi bW.R.Num,oi bW.R.Den,oi bW.S.Num,oi bW.S.Den] 58]) (fun y hm ku aY=>?_) fun t h=>?_
           ·have h:=hm;clear hm;cbv;obtain rfl:=oj h;exact aY _ _ _ rfl (.nz (.aB [0,1,2,3,4,5] mx))
           cbv;obtain rfl:=oj h;exact aP _ _ _ rfl (.nz (.aB [0,1,2,3,4] mx))
   obtain⟨jL,lM,o9,oU,zh,zy,zf,zx,yZ,zu,yY,zq,yX,zo,lg,tZ,uQ,kF,lJ⟩:=t;cbv;obtain rfl:=oj h;exact bg _ _ _ rfl (.nz (.aB [0,1,2,3,4] mx))
  ·cbv;obtain rfl:=oj h;obtain rfl:=hr2 _ rfl;exact aC _ _ _ rfl (.nz (.aB [1,2,3] mx))
 obtain⟨iR,kR,nU,nT,Bf,Bj,Bc,Bh,Ba,vI,uU,vH,uT,vG,jB,ql,rH,iq,iI⟩:=t;cbv;refine .g h (fun (jy:Bool)=>rp 4 .top++[.ptr 0 0,.top,.ptr 1 0]++rp 98 .top) (fun jy=>[.cells dz 44,.cells [.ptr 2 0] 109,.cells [ob jy,ob iR,ob kR,oi nU,oi nT,oi Bf,oi Bj,oi Bc,oi Bh,oi Ba,oi vI,oi uU,oi vH,oi uT,oi vG,oi 0,ob jB,ob ql,ob rH,oi iq,oi iI] 111]) (fun y hm Kn1 aC=>?_) fun t h=>?_
 ·have h:=hm;clear hm;cbv;refine aG h ?_ ?_<;>intro h
  ·cbv;refine aG h ?_ ?_<;>intro h
   ·cbv;obtain rfl:=oj h;exact aC _ _ _ rfl (.nz (.aB [0,1,2] mx))
   ·cbv;obtain rfl:=oj h;exact aC _ _ _ rfl (.nz (.aB [0,1,2] mx))
  ·cbv;obtain rfl:=oj h;exact aC _ _ _ rfl (.nz (.aB [0,1,2] mx))
 obtain⟨jy,rfl⟩:=ez t;cbv;refine .g h (fun (Gh:Int)=>rp 4 .top++[.ptr 0 0,.top,.ptr 1 0]++rp 98 .top) (fun Gh=>[.cells dz 44,.cells [.ptr 2 0] 109,.cells [ob jy,ob iR,ob kR,oi nU,oi nT,oi Bf,oi Bj,oi Bc,oi Bh,oi Ba,oi vI,oi uU,oi vH,oi uT,oi vG,oi Gh,ob jB,ob ql,ob rH,oi iq,oi iI] 111]) (fun y hm Kn1 aC=>?_) fun t h=>?_
 ·have h:=hm;clear hm;cbv;refine aG h ?_ ?_<;>intro h
  ·cbv;obtain rfl:=oj h;exact aC _ _ _ rfl (.nz (.aB [0,1,2] mx))
  ·cbv;obtain rfl:=oj h;exact aC _ _ _ rfl (.nz (.aB [0,1,2] mx))
 obtain⟨Gh,rfl⟩:=ez t;cbv;obtain rfl:=oj h;exact hK _ _ aJ
end Go.SX.Td
