/- Parts of the proof. -/
import Derived.Test.YtllbabjgpdmblaaGreatDoorZTdT
import Derived.Test.YtllbabjgpdmblaaGreatDoorZTd49
import Derived.Test.YtllbabjgpdmblaaGreatDoorZTd32d
set_option linter.unusedSimpArgs false
set_option linter.unusedVariables false
set_option linter.unusedSectionVars false
namespace Go.SX.Td
open Go Go.SX Go.Proofs
set_option maxRecDepth 100000
def zg3 : List ah:=gS 2 [.box 42 0]++gS 4 [.mv (cB false)]
def zb3 : List ah:=gS 5 [.aj 1 2,.load 1 false 5,.bin .geq 6 (ci 1),.mv 7]++gQ 8 true 9 [.aj 1 2,.load 1 false 9,.bin .leq 10 (ci 1000000)]++gS 12 [.pick 8 11 (cB false),.mv 12]++gQ 13 true 14 [.aj 0 2,.load 1 false 14,.bin .geq 15 (ci 0)]++gS 17 [.pick 13 16 (cB false),.mv 17]++gQ 18 true 19 [.aj 0 2,.load 1 false 19,.mv 1,.aj 1 2,.load 1 false 22,.bin .mul 21 23,.bin .leq 20 24]++gS 26 [.pick 18 25 (cB false),.mv 26]++gQ 27 true 28 [.aj 0 2,.load 1 false 28,.bin .leq 29 (ci 1000000)]++gS 31 [.pick 27 30 (cB false)]++gS 4 [.mv 31]
def c87 : fJ:=⟨32,.seq (.reg zg3) (.seq (.reg zb3) (.ret)),[.tmp 4]⟩
theorem Tc : fD Tryz.prog 87=some c87.er:=by kernel_rfl
def ux3 : List ah:=gS 1 [.box 58 0,.mv (cB false)]
def uj3 : List ah:=gS 3 [.aj 0 1,.load 1 false 3,.bin .eql 4 (ci 1)]
def uq3 : List ah:=gS 6 [.aj 3 1,.load 1 false 6,.bin .geq 7 (ci 0),.mv 8]++gQ 9 true 10 [.aj 3 1,.load 1 false 10,.bin .leq 11 (ci 100)]++gS 13 [.pick 9 12 (cB false)]++gS 2 [.mv 13]
def xu3 : List ah:=gS 14 [.aj 0 1,.load 1 false 14,.bin .eql 15 (ci 3)]
def xo3 : List ah:=gS 17 [.aj 3 1,.load 1 false 17,.bin .geq 18 (ci 0),.mv 19]++gQ 20 true 21 [.aj 3 1,.load 1 false 21,.bin .leq 22 (ci 10000000)]++gS 24 [.pick 20 23 (cB false),.mv 24]++gQ 25 true 26 [.aj 4 1,.load 2 true 26,.call 87 [27,(ci 1)]]++gS 29 [.pick 25 28 (cB false),.mv 29]++gQ 30 true 31 [.aj 6 1,.load 2 true 31,.call 87 [32,(ci 1)]]++gS 34 [.pick 30 33 (cB false)]++gS 2 [.mv 34]
def xi3 : List ah:=gS 35 [.aj 0 1,.load 1 false 35,.bin .eql 36 (ci 4)]
def xe3 : List ah:=gS 38 [.aj 4 1,.load 2 true 38,.call 87 [39,(ci 10)],.mv 40]++gQ 41 true 42 [.aj 6 1,.load 2 true 42,.call 87 [43,(ci 1)]]++gS 45 [.pick 41 44 (cB false)]++gS 2 [.mv 45]
def xa3 : List ah:=gS 46 [.aj 0 1,.load 1 false 46,.bin .eql 47 (ci 5)]
def xr3 : List ah:=gS 49 [.aj 4 1,.load 2 true 49,.call 87 [50,(ci 1)]]++gS 2 [.mv 51]
def xn3 : List ah:=gS 52 [.aj 0 1,.load 1 false 52,.bin .eql 53 (ci 2),.mv 54]++gQ 55 false 56 [.aj 0 1,.load 1 false 56,.bin .eql 57 (ci 6)]++gS 59 [.pick 55 (cB true) 58,.mv 59]++gQ 60 false 61 [.aj 0 1,.load 1 false 61,.bin .eql 62 (ci 7)]++gS 64 [.pick 60 (cB true) 63]++gS 2 [.mv 64]
def c56 : fJ:=⟨65,.seq (.reg ux3) (.seq (.seq (.reg uj3) (.cond 5 (.seq (.reg uq3) (.ret)) (.skip))) (.seq (.seq (.reg xu3) (.cond 16 (.seq (.reg xo3) (.ret)) (.skip))) (.seq (.seq (.reg xi3) (.cond 37 (.seq (.reg xe3) (.ret)) (.skip))) (.seq (.seq (.reg xa3) (.cond 48 (.seq (.reg xr3) (.ret)) (.skip))) (.seq (.reg xn3) (.ret)))))),[.tmp 2]⟩
theorem sy2 : fD Tryz.prog 56=some c56.er:=by kernel_rfl
set_option maxHeartbeats 4000000 in
theorem ro0 {P:Program}(hP:P=Tryz.prog)(r_:Rule)(r:Bool)(h:Tf r_=some r):Fn1 P 56 [XH r_] (vB r):=by
 refine .mJ (hP▸sy2) fun K hK=>?_;unfold Tf at h;cbv;refine aG h ?_ ?_<;>intro h
 ·cbv;refine aG h ?_ ?_<;>intro h
  ·cbv;obtain rfl:=oj h;exact hK _ _ aJ
  ·cbv;obtain rfl:=oj h;exact hK _ _ aJ
 ·cbv;refine aG h ?_ ?_<;>intro h
  ·cbv;refine aG h ?_ ?_<;>intro h
   ·cbv;refine aG h ?_ ?_<;>intro h
    ·cbv;refine .inl (hP▸Tc) ?_;cbv;refine aG h ?_ ?_<;>intro h
     ·cbv;refine aG h ?_ ?_<;>intro h
      ·cbv;refine aG h ?_ ?_<;>intro h
       ·cbv;refine aG h ?_ ?_<;>intro h
        ·cbv;refine aG h ?_ ?_<;>intro h
         ·cbv;refine .inl (hP▸Tc) ?_;cbv;refine aG h ?_ ?_<;>intro h
          ·cbv;refine aG h ?_ ?_<;>intro h
           ·cbv;refine aG h ?_ ?_<;>intro h
            ·cbv;refine aG h ?_ ?_<;>intro h
             ·cbv;obtain rfl:=oj h;exact hK _ _ aJ
             ·cbv;obtain rfl:=oj h;exact hK _ _ aJ
            ·cbv;obtain rfl:=oj h;exact hK _ _ aJ
           ·cbv;obtain rfl:=oj h;exact hK _ _ aJ
          ·cbv;obtain rfl:=oj h;exact hK _ _ aJ
         ·cbv;obtain rfl:=oj h;exact hK _ _ aJ
        ·cbv;obtain rfl:=oj h;exact hK _ _ aJ
       ·cbv;obtain rfl:=oj h;exact hK _ _ aJ
      ·cbv;obtain rfl:=oj h;exact hK _ _ aJ
     ·cbv;obtain rfl:=oj h;exact hK _ _ aJ
    ·cbv;obtain rfl:=oj h;exact hK _ _ aJ
   ·cbv;obtain rfl:=oj h;exact hK _ _ aJ
  ·cbv;refine aG h ?_ ?_<;>intro h
   ·cbv;refine .inl (hP▸Tc) ?_;cbv;refine aG h ?_ ?_<;>intro h
    ·cbv;refine aG h ?_ ?_<;>intro h
     ·cbv;refine aG h ?_ ?_<;>intro h
      ·cbv;refine aG h ?_ ?_<;>intro h
       ·cbv;refine aG h ?_ ?_<;>intro h
        ·cbv;refine .inl (hP▸Tc) ?_;cbv;refine aG h ?_ ?_<;>intro h
         ·cbv;refine aG h ?_ ?_<;>intro h
          ·cbv;refine aG h ?_ ?_<;>intro h
           ·cbv;refine aG h ?_ ?_<;>intro h
            ·cbv;obtain rfl:=oj h;exact hK _ _ aJ
            ·cbv;obtain rfl:=oj h;exact hK _ _ aJ
           ·cbv;obtain rfl:=oj h;exact hK _ _ aJ
          ·cbv;obtain rfl:=oj h;exact hK _ _ aJ
         ·cbv;obtain rfl:=oj h;exact hK _ _ aJ
        ·cbv;obtain rfl:=oj h;exact hK _ _ aJ
       ·cbv;obtain rfl:=oj h;exact hK _ _ aJ
      ·cbv;obtain rfl:=oj h;exact hK _ _ aJ
     ·cbv;obtain rfl:=oj h;exact hK _ _ aJ
    ·cbv;obtain rfl:=oj h;exact hK _ _ aJ
   ·cbv;refine aG h ?_ ?_<;>intro h
    ·cbv;refine .inl (hP▸Tc) ?_;cbv;refine aG h ?_ ?_<;>intro h
     ·cbv;refine aG h ?_ ?_<;>intro h
      ·cbv;refine aG h ?_ ?_<;>intro h
       ·cbv;refine aG h ?_ ?_<;>intro h
        ·cbv;obtain rfl:=oj h;exact hK _ _ aJ
        ·cbv;obtain rfl:=oj h;exact hK _ _ aJ
       ·cbv;obtain rfl:=oj h;exact hK _ _ aJ
      ·cbv;obtain rfl:=oj h;exact hK _ _ aJ
     ·cbv;obtain rfl:=oj h;exact hK _ _ aJ
    ·cbv;refine aG h ?_ ?_<;>intro h
     ·cbv;obtain rfl:=oj h;exact hK _ _ aJ
     ·cbv;refine aG h ?_ ?_<;>intro h
      ·cbv;obtain rfl:=oj h;exact hK _ _ aJ
      ·cbv;obtain rfl:=oj h;exact hK _ _ aJ
def ab3 : List ah:=gS 1 [.box 24 0,.mv (cB false)]
def ay3 : List ah:=gS 9 [.aj 0 1,.load 1 false 9,.len false 10,.bin .gtr 11 (ci 200)]
def aw3 : List ah:=gS 2 [.mv (cB false)]
def av3 : List ah:=gS 13 [.call 20 []]++gS 3 [.alloc 54 (.agg #[oz,oz,oz,oz,oz,oz,oz,oz,oz,oz,oz,oz,oz,oz,oz,oz,oz,oz,oz,oz])]++[⟨none,.store 20 3 13,none⟩]
def ak3 : List ah:=gS 4 [.mv (ci 0)]
def ax3 : List ah:=gS 14 [.mv 4,.aj 0 1,.load 1 false 15,.len false 16,.bin .lss 14 17]
def aj3 : List ah:=gS 21 [.aj 0 1,.load 1 false 21,.mv 4,.aQ 8 22 23,.load 8 true 24]++gS 5 [.alloc 58 (.agg #[oz,(.string ⟨#[]⟩),(.slice none 0 0),oz,oz,oz,oz,oz])]++[⟨none,.store 8 5 25,none⟩]
def az3 : List ah:=gS 26 [.load 8 true 5,.call 56 [26],.un .not 27,.mv 28]++gQ 29 false 30 [.aj 2 5,.load 1 false 30,.len false 31,.bin .gtr 32 (ci 200)]++gS 34 [.pick 29 (cB true) 33]
def aq3 : List ah:=gS 2 [.mv (cB false)]
def su3 : List ah:=gS 6 [.mv (ci 0)]
def nw2 : List ah:=gS 35 [.mv 6,.aj 2 5,.load 1 false 36,.len false 37,.bin .lss 35 38]
def nv2 : List ah:=gS 7 [.mv (ci 0)]
def nk2 : List ah:=gS 42 [.mv 7,.bin .lss 42 (ci 10)]
def nj2 : List ah:=gS 46 [.aj 2 5,.load 1 false 46,.mv 6,.mv 7,.aQ 20 47 48,.eH 10 2 50 49,.aj 0 51,.load 1 false 52,.aj 2 5,.load 1 false 54,.mv 6,.mv 7,.aQ 20 55 56,.eH 10 2 58 57,.aj 1 59,.load 1 false 60,.bin .gtr 53 61,.mv 62]++gQ 63 false 64 [.aj 2 5,.load 1 false 64,.mv 6,.mv 7,.aQ 20 65 66,.eH 10 2 68 67,.aj 0 69,.load 1 false 70,.mv 7,.eH 10 2 3 72,.aj 0 73,.load 1 false 74,.bin .lss 71 75]++gS 77 [.pick 63 (cB true) 76,.mv 77]++gQ 78 false 79 [.aj 2 5,.load 1 false 79,.mv 6,.mv 7,.aQ 20 80 81,.eH 10 2 83 82,.aj 1 84,.load 1 false 85,.mv 7,.eH 10 2 3 87,.aj 1 88,.load 1 false 89,.bin .gtr 86 90]++gS 92 [.pick 78 (cB true) 91]
def nz2 : List ah:=gS 2 [.mv (cB false)]
def nq2 : List ah:=gS 44 [.mv 7,.bin .add 44 (ci 1)]++gS 7 [.mv 45]
def np2 : DE:=.seq (.seq (.reg nk2) (.cond 43 (.skip) (.exit 4))) (.seq (.block 5 (.join (.par true true true 45 nj2) (.cond 92 (.seq (.reg nz2) (.ret)) (.skip)))) (.reg nq2))
def mu2 : List ah:=gS 40 [.mv 6,.bin .add 40 (ci 1)]++gS 6 [.mv 41]
def ng2 : DE:=.seq (.seq (.reg nw2) (.cond 39 (.skip) (.exit 2))) (.join (.block 3 (.seq (.reg nv2) (.block 4 (.loop np2)))) (.reg mu2))
def mo2 : List ah:=gS 8 [.mv (ci 0)]
def mi2 : List ah:=gS 93 [.mv 8,.mv 4,.bin .lss 93 94]
def me2 : List ah:=gS 98 [.aj 0 1,.load 1 false 98,.mv 8,.aQ 8 99 100,.aj 1 101,.load 1 false 102,.aj 1 5,.load 1 false 104,.bin .eql 103 105]
def ma2 : List ah:=gS 2 [.mv (cB false)]
def mr2 : List ah:=gS 96 [.mv 8,.bin .add 96 (ci 1)]++gS 8 [.mv 97]
def nb2 : DE:=.seq (.seq (.reg mi2) (.cond 95 (.skip) (.exit 6))) (.seq (.block 7 (.seq (.par true true true 8 me2) (.cond 106 (.seq (.reg ma2) (.ret)) (.skip)))) (.reg mr2))
def mn2 : List ah:=gS 19 [.mv 4,.bin .add 19 (ci 1)]++gS 4 [.mv 20]
def ny2 : DE:=.seq (.seq (.reg ax3) (.cond 18 (.skip) (.exit 0))) (.join (.block 1 (.seq (.reg aj3) (.seq (.join (.reg az3) (.cond 34 (.seq (.reg aq3) (.ret)) (.skip))) (.join (.seq (.reg su3) (.block 2 (.loop ng2))) (.seq (.reg mo2) (.block 6 (.loop nb2))))))) (.reg mn2))
def mt2 : List ah:=gS 2 [.mv (cB true)]
def c25 : fJ:=⟨107,.seq (.reg ab3) (.seq (.seq (.reg ay3) (.cond 12 (.seq (.reg aw3) (.ret)) (.skip))) (.seq (.reg av3) (.join (.seq (.reg ak3) (.block 0 (.loop ny2))) (.seq (.reg mt2) (.ret))))),[.tmp 2]⟩
theorem nh2 : fD Tryz.prog 25=some c25.er:=by kernel_rfl
set_option maxHeartbeats 4000000 in
theorem lw0 {P:Program}(hP:P=Tryz.prog)(p:au)(r:Bool)(h:Gq p=some r):Fn1 P 25 [BA p] (vB r):=by
 refine .mJ (hP▸nh2) fun K hK=>?_;unfold Gq at h;cbv;refine aG h ?_ ?_<;>intro h
 ·cbv;obtain rfl:=oj h;exact hK _ _ aJ
 ·cbv;refine .g h (fun v hv=>Jb hP v hv) aJ rfl (fun _=>rfl) fun v1 h=>?_;cbv;refine .ga h (fun (_:Unit)=>rp 107 .top) (fun _=>[]) (fun y hm hr1 Kn1 aC=>?_) fun t h=>?_
  ·have h:=hm;clear hm;cbv;refine .g h (fun (i2:Int)=>[.top,.ptr 0 0,.top,.ptr 1 0,oi i2]++rp 102 .top) (fun i2=>[.cells [dq aZ p.Rules] 24,.cells (cR v1) 54]) (.nz (.aB [0,1] ?_)) fun s x h hr2 Kn2 bg=>?_
   ·exact mx
   unfold TK at h;obtain⟨i2,rfl⟩:=ez s;cbv;refine aG h ?_ ?_<;>intro h
   ·cbv;refine .ga h (fun (_:Unit)=>[.top,.ptr 0 0,.top,.ptr 1 0,oi i2]++rp 102 .top) (fun _=>[.cells [dq aZ p.Rules] 24,.cells (cR v1) 54]) (fun y hm hr3 Kn3 aP=>?_) fun t h=>?_
    ·have h:=hm;clear hm;cbv;refine .g h (fun _=>rfl) fun x3 h=>?_;cbv;refine .g h (fun (v4:Bool)=>[.top,.ptr 0 0,.top,.ptr 1 0,oi i2,.ptr 2 0]++rp 28 .top++[ob v4]++rp 72 .top) (fun v4=>[.cells [dq aZ p.Rules] 24,.cells (cR v1) 54,.cells [oi x3.Kind,.d (.val (.string x3.Name)),dq dD x3.ay,oi x3.N,oi x3.R.Num,oi x3.R.Den,oi x3.S.Num,oi x3.S.Den] 58]) (fun y hm ku aY=>?_) fun t h=>?_
     ·have h:=hm;clear hm;cbv;refine .g h (fun v hv=>ro0 hP _ v hv) aJ rfl (fun _=>rfl) fun v5 h=>?_;cbv;refine aG h ?_ ?_<;>intro h
      ·cbv;obtain rfl:=oj h;exact aY _ _ _ rfl (.nz (.aB [0,1,2] mx))
      ·cbv;obtain rfl:=oj h;exact aY _ _ _ rfl (.nz (.aB [0,1,2] mx))
     obtain⟨v4,rfl⟩:=ez t;cbv;refine aG h ?_ ?_<;>intro h
     ·cbv;obtain rfl:=oj h;obtain rfl:=hr3 _ rfl;obtain rfl:=hr2 _ rfl;obtain rfl:=hr1 _ rfl;exact hK _ _ aJ
     ·cbv;refine .ga h (fun (_:Unit)=>[.top,.ptr 0 0,.top,.ptr 1 0,oi i2,.ptr 2 0]++rp 101 .top) (fun _=>[.cells [dq aZ p.Rules] 24,.cells (cR v1) 54,.cells [oi x3.Kind,.d (.val (.string x3.Name)),dq dD x3.ay,oi x3.N,oi x3.R.Num,oi x3.R.Den,oi x3.S.Num,oi x3.S.Den] 58]) (fun y hm hr4 ku aY=>?_) fun t h=>?_
      ·have h:=hm;clear hm;cbv;refine .g h (fun (k6:Int)=>[.top,.ptr 0 0,.top,.ptr 1 0,oi i2,.ptr 2 0,oi k6]++rp 100 .top) (fun k6=>[.cells [dq aZ p.Rules] 24,.cells (cR v1) 54,.cells [oi x3.Kind,.d (.val (.string x3.Name)),dq dD x3.ay,oi x3.N,oi x3.R.Num,oi x3.R.Den,oi x3.S.Num,oi x3.S.Den] 58]) (.nz (.aB [0,1,2] ?_)) fun s x h wo Hr jH=>?_
       ·exact mx
       unfold Oh at h;obtain⟨k6,rfl⟩:=ez s;cbv;refine aG h ?_ ?_<;>intro h
       ·cbv;refine .ga h (fun (_:Unit)=>[.top,.ptr 0 0,.top,.ptr 1 0,oi i2,.ptr 2 0,oi k6]++rp 100 .top) (fun _=>[.cells [dq aZ p.Rules] 24,.cells (cR v1) 54,.cells [oi x3.Kind,.d (.val (.string x3.Name)),dq dD x3.ay,oi x3.N,oi x3.R.Num,oi x3.R.Den,oi x3.S.Num,oi x3.S.Den] 58]) (fun y hm hr6 N9 jY=>?_) fun t h=>?_
        ·have h:=hm;clear hm;cbv;refine .g h (fun (a7:Int)=>[.top,.ptr 0 0,.top,.ptr 1 0,oi i2,.ptr 2 0,oi k6,oi a7]++rp 99 .top) (fun a7=>[.cells [dq aZ p.Rules] 24,.cells (cR v1) 54,.cells [oi x3.Kind,.d (.val (.string x3.Name)),dq dD x3.ay,oi x3.N,oi x3.R.Num,oi x3.R.Den,oi x3.S.Num,oi x3.S.Den] 58]) (.nz (.aB [0,1,2] ?_)) fun s x h hr7 YH uO=>?_
         ·exact mx
         unfold Om at h;obtain⟨a7,rfl⟩:=ez s;cbv;refine aG h ?_ ?_<;>intro h
         ·cbv;refine .g h (fun (v8:Bool)=>[.top,.ptr 0 0,.top,.ptr 1 0,oi i2,.ptr 2 0,oi k6,oi a7]++rp 84 .top++[ob v8]++rp 14 .top) (fun v8=>[.cells [dq aZ p.Rules] 24,.cells (cR v1) 54,.cells [oi x3.Kind,.d (.val (.string x3.Name)),dq dD x3.ay,oi x3.N,oi x3.R.Num,oi x3.R.Den,oi x3.S.Num,oi x3.S.Den] 58]) (fun y hm Kn8 Nj=>?_) fun t h=>?_
          ·have h:=hm;clear hm;cbv;refine .g h (fun _=>rfl) fun x9 h=>?_;cbv
           refine .c10 h ?_ ?_ ?_ ?_ ?_ ?_ ?_ ?_ ?_ ?_<;>(
            intro yO h;cbv;refine .g h (fun _=>rfl) fun x11 h=>?_;cbv;refine .at _ yO (by decide) ?_;cbv;refine aG h ?_ ?_<;>intro h
            ·cbv;obtain rfl:=oj h;exact Nj _ _ _ rfl (.nz (.aB [0,1,2] mx))
            ·cbv;refine .g h (fun _=>rfl) fun x12 h=>?_;cbv;refine .at _ yO (by decide) ?_;cbv;refine .at _ yO (by decide) ?_;cbv;refine aG h ?_ ?_<;>intro h
             ·cbv;obtain rfl:=oj h;exact Nj _ _ _ rfl (.nz (.aB [0,1,2] mx))
             ·cbv;refine .g h (fun _=>rfl) fun mF h=>?_;cbv;refine .at _ yO (by decide) ?_;cbv;refine .at _ yO (by decide) ?_;cbv;obtain rfl:=oj h;exact Nj _ _ _ rfl (.nz (.aB [0,1,2] mx))
            )
          obtain⟨v8,rfl⟩:=ez t;cbv;refine aG h ?_ ?_<;>intro h
          ·cbv;obtain rfl:=oj h;obtain rfl:=hr7 _ rfl;obtain rfl:=hr6 _ rfl;obtain rfl:=wo _ rfl;obtain rfl:=hr4 _ rfl;obtain rfl:=hr3 _ rfl;obtain rfl:=hr2 _ rfl;obtain rfl:=hr1 _ rfl;exact hK _ _ aJ
          ·cbv;obtain rfl:=oj h;exact uO _ _ _ rfl (.nz (.aB [0,1,2] mx))
         ·cbv;obtain rfl:=oj h;obtain rfl:=hr7 _ rfl;exact jY _ _ _ rfl (.nz (.aB [0,1,2] mx))
        cbv;obtain rfl:=oj h;exact jH _ _ _ rfl (.nz (.aB [0,1,2] mx))
       ·cbv;obtain rfl:=oj h;obtain rfl:=wo _ rfl;exact aY _ _ _ rfl (.nz (.aB [0,1,2] mx))
      cbv;refine .g h (fun (k14:Int)=>[.top,.ptr 0 0,.top,.ptr 1 0,oi i2,.ptr 2 0,.top,.top,oi k14]++rp 98 .top) (fun k14=>[.cells [dq aZ p.Rules] 24,.cells (cR v1) 54,.cells [oi x3.Kind,.d (.val (.string x3.Name)),dq dD x3.ay,oi x3.N,oi x3.R.Num,oi x3.R.Den,oi x3.S.Num,oi x3.S.Den] 58]) (.nz (.aB [0,1,2] ?_)) fun s x h hr4 ku aY=>?_
      ·exact mx
      unfold Jo at h;obtain⟨k14,rfl⟩:=ez s;cbv;refine aG h ?_ ?_<;>intro h
      ·cbv;refine .g h (fun _=>rfl) fun x15 h=>?_;cbv;refine aG h ?_ ?_<;>intro h
       ·cbv;obtain rfl:=oj h;obtain rfl:=hr4 _ rfl;obtain rfl:=hr3 _ rfl;obtain rfl:=hr2 _ rfl;obtain rfl:=hr1 _ rfl;exact hK _ _ aJ
       ·cbv;obtain rfl:=oj h;exact aY _ _ _ rfl (.nz (.aB [0,1,2] mx))
      ·cbv;obtain rfl:=oj h;obtain rfl:=hr4 _ rfl;exact aP _ _ _ rfl (.nz (.aB [0,1] mx))
    cbv;obtain rfl:=oj h;exact bg _ _ _ rfl (.nz (.aB [0,1] mx))
   ·cbv;obtain rfl:=oj h;obtain rfl:=hr2 _ rfl;exact aC _ _ _ rfl (.nz (.aB [] mx))
  cbv;obtain rfl:=oj h;exact hK _ _ aJ
def yz3 : List ah:=gS 4 [.mv (cB false)]
def yq3 : List ah:=gS 5 [.mv (ci 0)]
def wu3 : List ah:=gS 6 [.mv 5,.mv 0,.len false 7,.bin .lss 6 8]
def wo3 : List ah:=gS 12 [.mv 0,.mv 5,.aQ 1 12 13,.load 1 false 14,.mv 1,.bin .eql 15 16]
def wi3 : List ah:=gS 4 [.mv (cB true)]
def we3 : List ah:=gS 10 [.mv 5,.bin .add 10 (ci 1)]++gS 5 [.mv 11]
def yj3 : DE:=.seq (.seq (.reg wu3) (.cond 9 (.skip) (.exit 0))) (.seq (.block 1 (.seq (.reg wo3) (.cond 17 (.seq (.reg wi3) (.ret)) (.skip)))) (.reg we3))
def wa3 : List ah:=gS 4 [.mv (cB false)]
def c80 : fJ:=⟨18,.seq (.reg yz3) (.join (.seq (.reg yq3) (.block 0 (.loop yj3))) (.seq (.reg wa3) (.ret))),[.tmp 4]⟩
theorem fg2 : fD Tryz.prog 80=some c80.er:=by kernel_rfl
set_option maxHeartbeats 4000000 in
theorem WJ {P:Program}(hP:P=Tryz.prog)(l:(List Int))(n:Int)(r:Bool)(h:Gx l n=some r):Fn1 P 80 [LG l,G8 n] (vB r):=by
 refine .mJ (hP▸fg2) fun K hK=>?_;unfold Gx at h;cbv;refine .ga h (fun (_:Unit)=>rp 18 .top) (fun _=>[]) (fun y hm hr1 Kn1 aC=>?_) fun t h=>?_
 ·have h:=hm;clear hm;cbv;refine .g h (fun (i1:Int)=>[dq aH l,oi n]++rp 3 .top++[oi i1]++rp 12 .top) (fun i1=>[]) (.nz (.aB [] ?_)) fun s x h hr2 Kn2 bg=>?_
  ·exact mx
  unfold QN at h;obtain⟨i1,rfl⟩:=ez s;cbv;refine aG h ?_ ?_<;>intro h
  ·cbv;refine .g h (fun _=>rfl) fun x2 h=>?_;cbv;refine aG h ?_ ?_<;>intro h
   ·cbv;obtain rfl:=oj h;obtain rfl:=hr2 _ rfl;obtain rfl:=hr1 _ rfl;exact hK _ _ aJ
   ·cbv;obtain rfl:=oj h;exact bg _ _ _ rfl (.nz (.aB [] mx))
  ·cbv;obtain rfl:=oj h;obtain rfl:=hr2 _ rfl;exact aC _ _ _ rfl (.nz (.aB [] mx))
 cbv;obtain rfl:=oj h;exact hK _ _ aJ
def vp3 : List ah:=gS 4 [.mv (cB false)]
def vg3 : List ah:=gS 6 [.mv 0,.len false 6,.mv 1,.len false 8,.bin .neq 7 9]
def vb3 : List ah:=gS 4 [.mv (cB false)]
def vy3 : List ah:=gS 5 [.mv (ci 0)]
def vw3 : List ah:=gS 11 [.mv 5,.mv 0,.len false 12,.bin .lss 11 13]
def vv3 : List ah:=gS 17 [.mv 0,.mv 5,.aQ 1 17 18,.load 1 false 19,.mv 1,.mv 5,.aQ 1 21 22,.load 1 false 23,.bin .neq 20 24]
def vk3 : List ah:=gS 4 [.mv (cB false)]
def vx3 : List ah:=gS 15 [.mv 5,.bin .add 15 (ci 1)]++gS 5 [.mv 16]
def vh3 : DE:=.seq (.seq (.reg vw3) (.cond 14 (.skip) (.exit 0))) (.seq (.block 1 (.seq (.par true true true 8 vv3) (.cond 25 (.seq (.reg vk3) (.ret)) (.skip)))) (.reg vx3))
def vj3 : List ah:=gS 4 [.mv (cB true)]
def c60 : fJ:=⟨26,.seq (.reg vp3) (.seq (.seq (.reg vg3) (.cond 10 (.seq (.reg vb3) (.ret)) (.skip))) (.join (.seq (.reg vy3) (.block 0 (.loop vh3))) (.seq (.reg vj3) (.ret)))),[.tmp 4]⟩
theorem sq2 : fD Tryz.prog 60=some c60.er:=by kernel_rfl
set_option maxHeartbeats 4000000 in
theorem df0 {P:Program}(hP:P=Tryz.prog)(a:(List Int))(b:(List Int))(r:Bool)(h:JV a b=some r):Fn1 P 60 [LG a,LG b] (vB r):=by
 refine .mJ (hP▸sq2) fun K hK=>?_;unfold JV at h;cbv;refine aG h ?_ ?_<;>intro h
 ·cbv;obtain rfl:=oj h;exact hK _ _ aJ
 ·cbv;refine .ga h (fun (_:Unit)=>rp 26 .top) (fun _=>[]) (fun y hm hr1 Kn1 aC=>?_) fun t h=>?_
  ·have h:=hm;clear hm;cbv;refine .g h (fun (i1:Int)=>[dq aH a,dq aH b]++rp 3 .top++[oi i1]++rp 20 .top) (fun i1=>[]) (.nz (.aB [] ?_)) fun s x h hr2 Kn2 bg=>?_
   ·exact mx
   unfold QG at h;obtain⟨i1,rfl⟩:=ez s;cbv;refine aG h ?_ ?_<;>intro h
   ·cbv;refine .g h (fun _=>rfl) fun x2 h=>?_;cbv;refine .g h (fun _=>rfl) fun x3 h=>?_;cbv;refine aG h ?_ ?_<;>intro h
    ·cbv;obtain rfl:=oj h;obtain rfl:=hr2 _ rfl;obtain rfl:=hr1 _ rfl;exact hK _ _ aJ
    ·cbv;obtain rfl:=oj h;exact bg _ _ _ rfl (.nz (.aB [] mx))
   ·cbv;obtain rfl:=oj h;obtain rfl:=hr2 _ rfl;exact aC _ _ _ rfl (.nz (.aB [] mx))
  cbv;obtain rfl:=oj h;exact hK _ _ aJ
def ea2 : List ah:=gS 2 [.box 58 0,.box 32 1,.mv (cB false)]
def er2 : List ah:=gS 5 [.mv (ci 0)]
def en2 : List ah:=gS 8 [.mv 5,.aj 2 2,.load 1 false 9,.len false 10,.bin .lss 8 11]
def et2 : List ah:=gS 6 [.mv (cB true)]
def ed2 : List ah:=gS 7 [.mv (ci 0)]
def ec2 : List ah:=gS 15 [.mv 7,.bin .lss 15 (ci 10)]
def em2 : List ah:=gS 19 [.mv 6,.mv 19]++gQ 20 true 21 [.mv 7,.eH 10 1 3 21,.load 1 false 22,.aj 2 2,.load 1 false 24,.mv 5,.mv 7,.aQ 20 25 26,.eH 10 2 28 27,.aj 0 29,.load 1 false 30,.bin .geq 23 31]++gS 33 [.pick 20 32 (cB false),.mv 33]++gQ 34 true 35 [.mv 7,.eH 10 1 3 35,.load 1 false 36,.aj 2 2,.load 1 false 38,.mv 5,.mv 7,.aQ 20 39 40,.eH 10 2 42 41,.aj 1 43,.load 1 false 44,.bin .leq 37 45]++gS 47 [.pick 34 46 (cB false)]++gS 6 [.mv 47]
def ef2 : List ah:=gS 17 [.mv 7,.bin .add 17 (ci 1)]++gS 7 [.mv 18]
def ee2 : DE:=.seq (.seq (.reg ec2) (.cond 16 (.skip) (.exit 2))) (.join (.block 3 (.par true true true 27 em2)) (.reg ef2))
def eh2 : List ah:=gS 48 [.mv 6]
def vp2 : List ah:=gS 4 [.mv (cB true)]
def vg2 : List ah:=gS 13 [.mv 5,.bin .add 13 (ci 1)]++gS 5 [.mv 14]
def vh2 : DE:=.seq (.seq (.reg en2) (.cond 12 (.skip) (.exit 0))) (.join (.block 1 (.seq (.reg et2) (.join (.seq (.reg ed2) (.block 2 (.loop ee2))) (.seq (.reg eh2) (.cond 48 (.seq (.reg vp2) (.ret)) (.skip)))))) (.reg vg2))
def vb2 : List ah:=gS 4 [.mv (cB false)]
def c103 : fJ:=⟨49,.seq (.reg ea2) (.join (.seq (.reg er2) (.block 0 (.loop vh2))) (.seq (.reg vb2) (.ret))),[.tmp 4]⟩
theorem vf2 : fD Tryz.prog 103=some c103.er:=by kernel_rfl
set_option maxHeartbeats 4000000 in
theorem ly0 {P:Program}(hP:P=Tryz.prog)(r_:Rule)(f:(aF Int))(r:Bool)(h:OD r_ f=some r):Fn1 P 103 [XH r_,H9 f] (vB r):=by
 refine .mJ (hP▸vf2) fun K hK=>?_;unfold OD at h;cbv;refine .ga h (fun (_:Unit)=>rp 49 .top) (fun _=>[]) (fun y hm hr1 Kn1 aC=>?_) fun t h=>?_
 ·have h:=hm;clear hm;cbv;refine .g h (fun (i1:Int)=>[.top,.top,.ptr 0 0,.ptr 1 0,.top,oi i1]++rp 43 .top) (fun i1=>[.cells [oi r_.Kind,.d (.val (.string r_.Name)),dq dD r_.ay,oi r_.N,oi r_.R.Num,oi r_.R.Den,oi r_.S.Num,oi r_.S.Den] 58,.cells (ca f) 32]) (.nz (.aB [0,1] ?_)) fun s x h hr2 Kn2 bg=>?_
  ·exact mx
  unfold Ti at h;obtain⟨i1,rfl⟩:=ez s;cbv;refine aG h ?_ ?_<;>intro h
  ·cbv;refine .ga h (fun (_:Unit)=>[.top,.top,.ptr 0 0,.ptr 1 0,.top,oi i1]++rp 43 .top) (fun _=>[.cells [oi r_.Kind,.d (.val (.string r_.Name)),dq dD r_.ay,oi r_.N,oi r_.R.Num,oi r_.R.Den,oi r_.S.Num,oi r_.S.Den] 58,.cells (ca f) 32]) (fun y hm hr3 Kn3 aP=>?_) fun t h=>?_
   ·have h:=hm;clear hm;cbv;refine .g h (fun (in2:Bool)=>[.top,.top,.ptr 0 0,.ptr 1 0,.top,oi i1,ob in2]++rp 42 .top) (fun in2=>[.cells [oi r_.Kind,.d (.val (.string r_.Name)),dq dD r_.ay,oi r_.N,oi r_.R.Num,oi r_.R.Den,oi r_.S.Num,oi r_.S.Den] 58,.cells (ca f) 32]) (fun y hm ku aY=>?_) fun t h=>?_
    ·have h:=hm;clear hm;cbv;refine .g h (fun ((Qe,k4):Bool×Int)=>[.top,.top,.ptr 0 0,.ptr 1 0,.top,oi i1,ob Qe,oi k4]++rp 41 .top) (fun (Qe,k4)=>[.cells [oi r_.Kind,.d (.val (.string r_.Name)),dq dD r_.ay,oi r_.N,oi r_.R.Num,oi r_.R.Den,oi r_.S.Num,oi r_.S.Den] 58,.cells (ca f) 32]) (.nz (.aB [0,1] ?_)) fun s x h wo Hr jH=>?_
     ·exact mx
     unfold P7 at h;obtain⟨Qe,k4⟩:=s;cbv;refine aG h ?_ ?_<;>intro h
     ·cbv;refine .g h (fun (TS:Bool)=>[.top,.top,.ptr 0 0,.ptr 1 0,.top,oi i1,ob TS,oi k4]++rp 41 .top) (fun TS=>[.cells [oi r_.Kind,.d (.val (.string r_.Name)),dq dD r_.ay,oi r_.N,oi r_.R.Num,oi r_.R.Den,oi r_.S.Num,oi r_.S.Den] 58,.cells (ca f) 32]) (fun y hm N9 jY=>?_) fun t h=>?_
      ·have h:=hm;clear hm;cbv;refine aG h ?_ ?_<;>intro h
       ·cbv
        refine .c10 h ?_ ?_ ?_ ?_ ?_ ?_ ?_ ?_ ?_ ?_<;>(
         intro Iw h;cbv;refine .g h (fun _=>rfl) fun x7 h=>?_;cbv;refine .at _ Iw (by decide) ?_;cbv;refine aG h ?_ ?_<;>intro h
         ·cbv;refine .at _ Iw (by decide) ?_;cbv;refine .g h (fun _=>rfl) fun x8 h=>?_;cbv;refine .at _ Iw (by decide) ?_;cbv;obtain rfl:=oj h;exact jY _ _ _ rfl (.nz (.aB [0,1] mx))
         ·cbv;obtain rfl:=oj h;exact jY _ _ _ rfl (.nz (.aB [0,1] mx))
         )
       ·cbv;obtain rfl:=oj h;exact jY _ _ _ rfl (.nz (.aB [0,1] mx))
      obtain⟨TS,rfl⟩:=ez t;cbv;obtain rfl:=oj h;exact jH _ _ _ rfl (.nz (.aB [0,1] mx))
     ·cbv;obtain rfl:=oj h;obtain rfl:=wo _ rfl;exact aY _ _ _ rfl (.nz (.aB [0,1] mx))
    obtain⟨in2,rfl⟩:=ez t;cbv;refine aG h ?_ ?_<;>intro h
    ·cbv;obtain rfl:=oj h;obtain rfl:=hr3 _ rfl;obtain rfl:=hr2 _ rfl;obtain rfl:=hr1 _ rfl;exact hK _ _ aJ
    ·cbv;obtain rfl:=oj h;exact aP _ _ _ rfl (.nz (.aB [0,1] mx))
   cbv;obtain rfl:=oj h;exact bg _ _ _ rfl (.nz (.aB [0,1] mx))
  ·cbv;obtain rfl:=oj h;obtain rfl:=hr2 _ rfl;exact aC _ _ _ rfl (.nz (.aB [] mx))
 cbv;obtain rfl:=oj h;exact hK _ _ aJ
def ix2 : List ah:=gS 3 [.box 24 0,.box 32 1]++gS 6 [.mv (ci 0)]
def ij2 : List ah:=gS 7 [.mv (ci 0)]
def iz2 : List ah:=gS 8 [.mv 7,.aj 0 3,.load 1 false 9,.len false 10,.bin .lss 8 11]
def iq2 : List ah:=gS 15 [.aj 0 3,.load 1 false 15,.mv 7,.aQ 8 16 17,.aj 0 18,.load 1 false 19,.mv 2,.bin .eql 20 21,.mv 22]++gQ 23 true 24 [.aj 0 3,.load 1 false 24,.mv 7,.aQ 8 25 26,.load 8 true 27,.load 10 true 4,.call 103 [28,29]]++gS 31 [.pick 23 30 (cB false)]
def eu2 : List ah:=gS 32 [.mv 7]++gS 6 [.mv 32]
def eo2 : List ah:=gS 13 [.mv 7,.bin .add 13 (ci 1)]++gS 7 [.mv 14]
def ik2 : DE:=.seq (.seq (.reg iz2) (.cond 12 (.skip) (.exit 0))) (.seq (.block 1 (.join (.par false false false 15 iq2) (.cond 31 (.seq (.reg eu2) (.ret)) (.skip)))) (.reg eo2))
def ei2 : List ah:=gS 6 [.mv (ci (-1))]
def c102 : fJ:=⟨33,.seq (.reg ix2) (.join (.seq (.reg ij2) (.block 0 (.loop ik2))) (.seq (.reg ei2) (.ret))),[.tmp 6]⟩
theorem vm2 : fD Tryz.prog 102=some c102.er:=by kernel_rfl
set_option maxHeartbeats 4000000 in
theorem Md {P:Program}(hP:P=Tryz.prog)(p:au)(f:(aF Int))(kind:Int)(r:Int)(h:Eb p f kind=some r):Fn1 P 102 [BA p,H9 f,G8 kind] (G8 r):=by
 refine .mJ (hP▸vm2) fun K hK=>?_;unfold Eb at h;cbv;refine .ga h (fun (_:Unit)=>rp 33 .top) (fun _=>[]) (fun y hm hr1 Kn1 aC=>?_) fun t h=>?_
 ·have h:=hm;clear hm;cbv;refine .g h (fun (i1:Int)=>[.top,.top,oi kind,.ptr 0 0,.ptr 1 0,.top,.top,oi i1]++rp 25 .top) (fun i1=>[.cells [dq aZ p.Rules] 24,.cells (ca f) 32]) (.nz (.aB [0,1] ?_)) fun s x h hr2 Kn2 bg=>?_
  ·exact mx
  unfold QF at h;obtain⟨i1,rfl⟩:=ez s;cbv;refine aG h ?_ ?_<;>intro h
  ·cbv;refine .g h (fun (v2:Bool)=>[.top,.top,oi kind,.ptr 0 0,.ptr 1 0,.top,.top,oi i1]++rp 23 .top++[ob v2,.top]) (fun v2=>[.cells [dq aZ p.Rules] 24,.cells (ca f) 32]) (fun y hm Kn3 aP=>?_) fun t h=>?_
   ·have h:=hm;clear hm;cbv;refine .g h (fun _=>rfl) fun x3 h=>?_;cbv;refine aG h ?_ ?_<;>intro h
    ·cbv;refine .g h (fun _=>rfl) fun x4 h=>?_;cbv;refine .g h (fun v hv=>ly0 hP _ _ v hv) aJ rfl (fun _=>rfl) fun v5 h=>?_;cbv;obtain rfl:=oj h;exact aP _ _ _ rfl (.nz (.aB [0,1] mx))
    ·cbv;obtain rfl:=oj h;exact aP _ _ _ rfl (.nz (.aB [0,1] mx))
   obtain⟨v2,rfl⟩:=ez t;cbv;refine aG h ?_ ?_<;>intro h
   ·cbv;obtain rfl:=oj h;obtain rfl:=hr2 _ rfl;obtain rfl:=hr1 _ rfl;exact hK _ _ aJ
   ·cbv;obtain rfl:=oj h;exact bg _ _ _ rfl (.nz (.aB [0,1] mx))
  ·cbv;obtain rfl:=oj h;obtain rfl:=hr2 _ rfl;exact aC _ _ _ rfl (.nz (.aB [] mx))
 cbv;obtain rfl:=oj h;exact hK _ _ aJ
def js3 : List ah:=gS 2 [.box 24 0,.box 32 1,.alloc 44 (.agg #[(.bool false),(.bool false),(.bool false),oz,oz,oz,oz,oz,oz,oz,oz,oz,oz,oz,oz,oz])]
def jt3 : List ah:=gS 14 [.build (.agg #[oz,oz]) [((0,1),(ci 0)),((1,1),(ci 1))]]++gS 5 [.alloc 42 (.agg #[oz,oz])]++[⟨none,.store 2 5 14,none⟩]
def jl3 : List ah:=gS 15 [.load 1 true 2,.load 10 true 3,.call 102 [15,16,(ci 1)]]++gS 6 [.mv 17]
def jd3 : List ah:=gS 18 [.load 1 true 2,.load 10 true 3,.call 102 [18,19,(ci 2)]]++gS 7 [.mv 20]
def jc3 : List ah:=gS 21 [.load 1 true 2,.load 10 true 3,.call 102 [21,22,(ci 3)]]++gS 8 [.mv 23]
def jm3 : List ah:=gS 24 [.load 1 true 2,.load 10 true 3,.call 102 [24,25,(ci 4)]]++gS 9 [.mv 26]
def jf3 : List ah:=gS 27 [.load 1 true 2,.load 10 true 3,.call 102 [27,28,(ci 5)]]++gS 10 [.mv 29]
def jh3 : List ah:=gS 30 [.load 2 true 5,.load 2 true 5,.load 2 true 5,.load 2 true 5,.load 2 true 5,.mv 6,.build (.agg #[(.bool false),(.bool false),(.bool false),oz,oz,oz,oz,oz,oz,oz,oz,oz,oz,oz,oz,oz]) [((5,2),30),((7,2),31),((9,2),32),((11,2),33),((13,2),34),((15,1),35)]]++gS 11 [.alloc 44 (.agg #[(.bool false),(.bool false),(.bool false),oz,oz,oz,oz,oz,oz,oz,oz,oz,oz,oz,oz,oz])]++[⟨none,.store 16 11 36,none⟩]
def jp3 : List ah:=gS 37 [.mv 6,.bin .geq 37 (ci 0),.mv 38]++gQ 39 true 40 [.mv 8,.bin .geq 40 (ci 0)]++gS 42 [.pick 39 41 (cB false),.mv 42]++gQ 43 true 44 [.mv 7,.bin .lss 44 (ci 0)]++gS 46 [.pick 43 45 (cB false),.aj 0 11]++[⟨none,.store 1 47 46,none⟩]
def jg3 : List ah:=gS 48 [.load 1 true 2,.load 10 true 3,.call 102 [48,49,(ci 6)],.bin .geq 50 (ci 0),.aj 1 11]++[⟨none,.store 1 52 51,none⟩]
def dp2 : List ah:=gS 53 [.load 1 true 2,.load 10 true 3,.call 102 [53,54,(ci 7)],.bin .geq 55 (ci 0),.aj 2 11]++[⟨none,.store 1 57 56,none⟩]
def dg2 : List ah:=gS 12 [.mv (ci 0)]
def db2 : List ah:=gS 58 [.mv 12,.aj 0 2,.load 1 false 59,.len false 60,.bin .lss 58 61]
def dy2 : List ah:=gS 65 [.aj 0 2,.load 1 false 65,.mv 12,.aQ 8 66 67,.load 8 true 68]++gS 13 [.alloc 58 (.agg #[oz,(.string ⟨#[]⟩),(.slice none 0 0),oz,oz,oz,oz,oz])]++[⟨none,.store 8 13 69,none⟩]
def dw2 : List ah:=gS 70 [.aj 0 13,.load 1 false 70,.bin .eql 71 (ci 1),.mv 72]++gQ 73 true 74 [.load 8 true 13,.load 10 true 3,.call 103 [74,75]]++gS 77 [.pick 73 76 (cB false),.mv 77]++gQ 78 true 79 [.aj 3 13,.load 1 false 79,.bin .gtr 80 (ci 0)]++gS 82 [.pick 78 81 (cB false),.mv 82]++gQ 83 true 84 [.aj 3 11,.load 1 false 84,.bin .eql 85 (ci 0),.mv 86]++gQ 87 false 88 [.aj 3 13,.load 1 false 88,.aj 3 11,.load 1 false 90,.bin .lss 89 91]++gQ 83 true 93 [.pick 87 (cB true) 92]++gS 94 [.pick 83 93 (cB false)]
def dv2 : List ah:=gS 95 [.aj 3 13,.load 1 false 95,.aj 3 11]++[⟨none,.store 1 97 96,none⟩]
def dx2 : List ah:=gS 63 [.mv 12,.bin .add 63 (ci 1)]++gS 12 [.mv 64]
def dh2 : DE:=.seq (.seq (.reg db2) (.cond 62 (.skip) (.exit 0))) (.join (.block 1 (.seq (.reg dy2) (.join (.reg dw2) (.cond 94 (.reg dv2) (.skip))))) (.reg dx2))
def dj2 : List ah:=gS 98 [.mv 8,.bin .geq 98 (ci 0)]
def dz2 : List ah:=gS 100 [.aj 0 2,.load 1 false 100,.mv 8,.aQ 8 101 102,.aj 3 103,.load 1 false 104,.aj 4 11]++[⟨none,.store 1 106 105,none⟩]
def dq2 : List ah:=gS 107 [.aj 0 2,.load 1 false 107,.mv 8,.aQ 8 108 109,.aj 4 110,.load 2 true 111,.aj 5 11]++[⟨none,.store 2 113 112,none⟩]
def fu2 : List ah:=gS 114 [.aj 0 2,.load 1 false 114,.mv 8,.aQ 8 115 116,.aj 6 117,.load 2 true 118,.aj 7 11]++[⟨none,.store 2 120 119,none⟩]
def fo2 : List ah:=gS 121 [.mv 9,.bin .geq 121 (ci 0)]
def fi2 : List ah:=gS 123 [.aj 0 2,.load 1 false 123,.mv 9,.aQ 8 124 125,.aj 4 126,.load 2 true 127,.aj 9 11]++[⟨none,.store 2 129 128,none⟩]
def fr2 : List ah:=gS 130 [.aj 0 2,.load 1 false 130,.mv 9,.aQ 8 131 132,.aj 6 133,.load 2 true 134,.aj 11 11]++[⟨none,.store 2 136 135,none⟩]
def fn2 : List ah:=gS 137 [.mv 10,.bin .geq 137 (ci 0)]
def fs2 : List ah:=gS 139 [.aj 0 2,.load 1 false 139,.mv 10,.aQ 8 140 141,.aj 4 142,.load 2 true 143,.aj 13 11]++[⟨none,.store 2 145 144,none⟩]
def ft2 : List ah:=gS 146 [.mv 7,.bin .geq 146 (ci 0)]
def fl2 : List ah:=gS 148 [.mv 7,.aj 15 11]++[⟨none,.store 1 149 148,none⟩]
def fd2 : List ah:=gS 150 [.load 16 true 11]++[⟨none,.store 16 4 150,none⟩]
def c77 : fJ:=⟨151,.seq (.reg js3) (.seq (.reg jt3) (.seq (.reg jl3) (.seq (.reg jd3) (.seq (.reg jc3) (.seq (.reg jm3) (.seq (.reg jf3) (.seq (.reg jh3) (.join (.reg jp3) (.seq (.reg jg3) (.seq (.reg dp2) (.join (.seq (.reg dg2) (.block 0 (.loop dh2))) (.join (.seq (.reg dj2) (.cond 99 (.seq (.reg dz2) (.seq (.reg dq2) (.reg fu2))) (.skip))) (.join (.seq (.reg fo2) (.cond 122 (.seq (.reg fi2) (.reg fr2)) (.skip))) (.join (.seq (.reg fn2) (.cond 138 (.reg fs2) (.skip))) (.join (.seq (.reg ft2) (.cond 147 (.reg fl2) (.skip))) (.seq (.reg fd2) (.ret))))))))))))))))),[.cell 4 16 true]⟩
theorem dm2 : fD Tryz.prog 77=some c77.er:=by kernel_rfl
set_option maxHeartbeats 4000000 in
theorem eo0 {P:Program}(hP:P=Tryz.prog)(p:au)(f:(aF Int))(r:Decision)(h:PE p f=some r):Fn1 P 77 [BA p,H9 f] (ZR r):=by
 refine .mJ (hP▸dm2) fun K hK=>?_;unfold PE at h;cbv;refine .g h (fun v hv=>Md hP _ _ _ v hv) aJ rfl (fun _=>rfl) fun jK h=>?_;cbv;refine .g h (fun v hv=>Md hP _ _ _ v hv) aJ rfl (fun _=>rfl) fun kV h=>?_;cbv;refine .g h (fun v hv=>Md hP _ _ _ v hv) aJ rfl (fun _=>rfl) fun jC h=>?_;cbv;refine .g h (fun v hv=>Md hP _ _ _ v hv) aJ rfl (fun _=>rfl) fun iZ h=>?_;cbv;refine .g h (fun v hv=>Md hP _ _ _ v hv) aJ rfl (fun _=>rfl) fun jc h=>?_;cbv;refine .g h (fun (eY:Bool)=>[.top,.top,.ptr 0 0,.ptr 1 0,.ptr 2 0,.top,.top,oi kV,oi jC,oi iZ,oi jc,.ptr 3 0]++rp 139 .top) (fun eY=>[.cells [dq aZ p.Rules] 24,.cells (ca f) 32,.cells dz 44,.cells [ob eY,ob false,ob false,oi 0,oi 0,oi 0,oi 1,oi 0,oi 1,oi 0,oi 1,oi 0,oi 1,oi 0,oi 1,oi jK] 44]) (fun y hm Kn1 aC=>?_) fun t h=>?_
 ·have h:=hm;clear hm;cbv;refine aG h ?_ ?_<;>intro h
  ·cbv;refine aG h ?_ ?_<;>intro h
   ·cbv;obtain rfl:=oj h;exact aC _ _ _ rfl (.nz (.aB [0,1,2,4] mx))
   ·cbv;obtain rfl:=oj h;exact aC _ _ _ rfl (.nz (.aB [0,1,2,4] mx))
  ·cbv;obtain rfl:=oj h;exact aC _ _ _ rfl (.nz (.aB [0,1,2,4] mx))
 obtain⟨eY,rfl⟩:=ez t;cbv;refine .g h (fun v hv=>Md hP _ _ _ v hv) aJ rfl (fun _=>rfl) fun v7 h=>?_;cbv;refine .g h (fun v hv=>Md hP _ _ _ v hv) aJ rfl (fun _=>rfl) fun v8 h=>?_;cbv;refine .g h (fun (kS:Int)=>[.top,.top,.ptr 0 0,.top,.ptr 1 0,.top,.top,oi kV,oi jC,oi iZ,oi jc,.ptr 2 0]++rp 139 .top) (fun kS=>[.cells [dq aZ p.Rules] 24,.cells dz 44,.cells [ob eY,ob (io.le 0 v7),ob (io.le 0 v8),oi kS,oi 0,oi 0,oi 1,oi 0,oi 1,oi 0,oi 1,oi 0,oi 1,oi 0,oi 1,oi jK] 44]) (fun y hm Kn1 aC=>?_) fun t h=>?_
 ·have h:=hm;clear hm;cbv;refine .g h (fun ((jw,i11):Int×Int)=>[.top,.top,.ptr 0 0,.ptr 1 0,.ptr 2 0,.top,.top,oi kV,oi jC,oi iZ,oi jc,.ptr 3 0,oi i11]++rp 138 .top) (fun (jw,i11)=>[.cells [dq aZ p.Rules] 24,.cells (ca f) 32,.cells dz 44,.cells [ob eY,ob (io.le 0 v7),ob (io.le 0 v8),oi jw,oi 0,oi 0,oi 1,oi 0,oi 1,oi 0,oi 1,oi 0,oi 1,oi 0,oi 1,oi jK] 44]) (.nz (.aB [0,1,2,3] ?_)) fun s x h hr2 Kn2 bg=>?_
  ·exact mx
  unfold PW at h;obtain⟨jw,i11⟩:=s;cbv;refine aG h ?_ ?_<;>intro h
  ·cbv;refine .g h (fun (pq:Int)=>[.top,.top,.ptr 0 0,.ptr 1 0,.ptr 2 0,.top,.top,oi kV,oi jC,oi iZ,oi jc,.ptr 3 0,oi i11]++rp 138 .top) (fun pq=>[.cells [dq aZ p.Rules] 24,.cells (ca f) 32,.cells dz 44,.cells [ob eY,ob (io.le 0 v7),ob (io.le 0 v8),oi pq,oi 0,oi 0,oi 1,oi 0,oi 1,oi 0,oi 1,oi 0,oi 1,oi 0,oi 1,oi jK] 44]) (fun y hm Kn3 aP=>?_) fun t h=>?_
   ·have h:=hm;clear hm;cbv;refine .g h (fun _=>rfl) fun mF h=>?_;cbv;refine .g h (fun (v14:Bool)=>[.top,.top,.ptr 0 0,.ptr 1 0,.ptr 2 0,.top,.top,oi kV,oi jC,oi iZ,oi jc,.ptr 3 0,oi i11,.ptr 4 0]++rp 80 .top++[ob v14]++rp 56 .top) (fun v14=>[.cells [dq aZ p.Rules] 24,.cells (ca f) 32,.cells dz 44,.cells [ob eY,ob (io.le 0 v7),ob (io.le 0 v8),oi jw,oi 0,oi 0,oi 1,oi 0,oi 1,oi 0,oi 1,oi 0,oi 1,oi 0,oi 1,oi jK] 44,.cells [oi mF.Kind,.d (.val (.string mF.Name)),dq dD mF.ay,oi mF.N,oi mF.R.Num,oi mF.R.Den,oi mF.S.Num,oi mF.S.Den] 58]) (fun y hm ku aY=>?_) fun t h=>?_
    ·have h:=hm;clear hm;cbv;refine aG h ?_ ?_<;>intro h
     ·cbv;refine .g h (fun v hv=>ly0 hP _ _ v hv) aJ rfl (fun _=>rfl) fun v15 h=>?_;cbv;refine aG h ?_ ?_<;>intro h
      ·cbv;refine aG h ?_ ?_<;>intro h
       ·cbv;refine aG h ?_ ?_<;>intro h
        ·cbv;obtain rfl:=oj h;exact aY _ _ _ rfl (.nz (.aB [0,1,2,3,4] mx))
        ·cbv;obtain rfl:=oj h;exact aY _ _ _ rfl (.nz (.aB [0,1,2,3,4] mx))
       ·cbv;obtain rfl:=oj h;exact aY _ _ _ rfl (.nz (.aB [0,1,2,3,4] mx))
      ·cbv;obtain rfl:=oj h;exact aY _ _ _ rfl (.nz (.aB [0,1,2,3,4] mx))
     ·cbv;obtain rfl:=oj h;exact aY _ _ _ rfl (.nz (.aB [0,1,2,3,4] mx))
    obtain⟨v14,rfl⟩:=ez t;cbv;refine aG h ?_ ?_<;>intro h
    ·cbv;obtain rfl:=oj h;exact aP _ _ _ rfl (.nz (.aB [0,1,2,3] mx))
    ·cbv;obtain rfl:=oj h;exact aP _ _ _ rfl (.nz (.aB [0,1,2,3] mx))
   obtain⟨pq,rfl⟩:=ez t;cbv;obtain rfl:=oj h;exact bg _ _ _ rfl (.nz (.aB [0,1,2,3] mx))
  ·cbv;obtain rfl:=oj h;obtain rfl:=hr2 _ rfl;exact aC _ _ _ rfl (.nz (.aB [0,2,3] mx))
 obtain⟨kS,rfl⟩:=ez t;cbv;refine .g h (fun ((jV,sN,sS,sK,sQ):Int×Int×Int×Int×Int)=>[.top,.top,.ptr 0 0,.top,.ptr 1 0,.top,.top,oi kV,.top,oi iZ,oi jc,.ptr 2 0]++rp 139 .top) (fun (jV,sN,sS,sK,sQ)=>[.cells [dq aZ p.Rules] 24,.cells dz 44,.cells [ob eY,ob (io.le 0 v7),ob (io.le 0 v8),oi kS,oi jV,oi sN,oi sS,oi sK,oi sQ,oi 0,oi 1,oi 0,oi 1,oi 0,oi 1,oi jK] 44]) (fun y hm Kn1 aC=>?_) fun t h=>?_
 ·have h:=hm;clear hm;cbv;refine aG h ?_ ?_<;>intro h
  ·cbv;refine .g h (fun _=>rfl) fun x21 h=>?_;cbv;refine .g h (fun _=>rfl) fun Y7 h=>?_;cbv;refine .g h (fun _=>rfl) fun x23 h=>?_;cbv;obtain rfl:=oj h;exact aC _ _ _ rfl (.nz (.aB [0,1,2] mx))
  ·cbv;obtain rfl:=oj h;exact aC _ _ _ rfl (.nz (.aB [0,1,2] mx))
 obtain⟨jV,sN,sS,sK,sQ⟩:=t;cbv;refine .g h (fun ((bZ,cO,bY,cu):Int×Int×Int×Int)=>[.top,.top,.ptr 0 0,.top,.ptr 1 0,.top,.top,oi kV,.top,.top,oi jc,.ptr 2 0]++rp 139 .top) (fun (bZ,cO,bY,cu)=>[.cells [dq aZ p.Rules] 24,.cells dz 44,.cells [ob eY,ob (io.le 0 v7),ob (io.le 0 v8),oi kS,oi jV,oi sN,oi sS,oi sK,oi sQ,oi bZ,oi cO,oi bY,oi cu,oi 0,oi 1,oi jK] 44]) (fun y hm Kn1 aC=>?_) fun t h=>?_
 ·have h:=hm;clear hm;cbv;refine aG h ?_ ?_<;>intro h
  ·cbv;refine .g h (fun _=>rfl) fun x28 h=>?_;cbv;refine .g h (fun _=>rfl) fun x29 h=>?_;cbv;obtain rfl:=oj h;exact aC _ _ _ rfl (.nz (.aB [0,1,2] mx))
  ·cbv;obtain rfl:=oj h;exact aC _ _ _ rfl (.nz (.aB [0,1,2] mx))
 obtain⟨bZ,cO,bY,cu⟩:=t;cbv;refine .g h (fun ((cZ,dh):Int×Int)=>rp 4 .top++[.ptr 0 0,.top,.top,oi kV]++rp 3 .top++[.ptr 1 0]++rp 139 .top) (fun (cZ,dh)=>[.cells dz 44,.cells [ob eY,ob (io.le 0 v7),ob (io.le 0 v8),oi kS,oi jV,oi sN,oi sS,oi sK,oi sQ,oi bZ,oi cO,oi bY,oi cu,oi cZ,oi dh,oi jK] 44]) (fun y hm Kn1 aC=>?_) fun t h=>?_
 ·have h:=hm;clear hm;cbv;refine aG h ?_ ?_<;>intro h
  ·cbv;refine .g h (fun _=>rfl) fun x32 h=>?_;cbv;obtain rfl:=oj h;exact aC _ _ _ rfl (.nz (.aB [1,2] mx))
  ·cbv;obtain rfl:=oj h;exact aC _ _ _ rfl (.nz (.aB [1,2] mx))
 obtain⟨cZ,dh⟩:=t;cbv;refine .g h (fun (Gi:Int)=>rp 4 .top++[.ptr 0 0]++rp 6 .top++[.ptr 1 0]++rp 139 .top) (fun Gi=>[.cells dz 44,.cells [ob eY,ob (io.le 0 v7),ob (io.le 0 v8),oi kS,oi jV,oi sN,oi sS,oi sK,oi sQ,oi bZ,oi cO,oi bY,oi cu,oi cZ,oi dh,oi Gi] 44]) (fun y hm Kn1 aC=>?_) fun t h=>?_
 ·have h:=hm;clear hm;cbv;refine aG h ?_ ?_<;>intro h
  ·cbv;obtain rfl:=oj h;exact aC _ _ _ rfl (.nz (.aB [0,1] mx))
  ·cbv;obtain rfl:=oj h;exact aC _ _ _ rfl (.nz (.aB [0,1] mx))
 obtain⟨Gi,rfl⟩:=ez t;cbv;obtain rfl:=oj h;exact hK _ _ aJ
def eg2 : List ah:=gS 5 [.box 52 2,.mv cn]
def eb2 : List ah:=gS 9 [.mv 1,.aj 0 5,.load 1 false 10,.bin .leq 9 11,.mv 12]++gQ 13 false 14 [.mv 1,.aj 1 5,.load 1 false 15,.bin .gtr 14 16]++gS 18 [.pick 13 (cB true) 17,.mv 18]++gQ 19 false 20 [.mv 0,.mv 1,.call 80 [20,21]]++gS 23 [.pick 19 (cB true) 22]
def ey2 : List ah:=gS 24 [.mv 0]++gS 6 [.mv 24]
def ew2 : List ah:=gS 7 [.mv (ci 0)]
def ev2 : List ah:=gS 25 [.mv 7,.mv 0,.len false 26,.bin .lss 25 27,.mv 28]++gQ 29 true 30 [.mv 0,.mv 7,.aQ 1 30 31,.load 1 false 32,.mv 1,.bin .lss 33 34]++gS 36 [.pick 29 35 (cB false)]
def ek2 : List ah:=gS 37 [.mv 7,.bin .add 37 (ci 1)]++gS 7 [.mv 38]
def ep2 : DE:=.seq (.join (.reg ev2) (.cond 36 (.skip) (.exit 0))) (.block 1 (.reg ek2))
def ex2 : List ah:=gS 39 [.aU 3 1 0 oz [],.mv 0,.mv 7,.slc 1 40 none (some 41),.app 3 1 8 oz 39 42]++gS 8 [.mv 43]
def ej2 : List ah:=gS 44 [.mv 8,.mv 1,.aU 3 1 1 oz [(0,45)],.app 3 1 8 oz 44 46]++gS 8 [.mv 47]
def ez2 : List ah:=gS 48 [.mv 8,.mv 0,.mv 7,.slc 1 49 (some 50) none,.app 3 1 8 oz 48 51]++gS 6 [.mv 52]
def c104 : fJ:=⟨53,.seq (.reg eg2) (.seq (.join (.reg eb2) (.cond 23 (.seq (.reg ey2) (.ret)) (.skip))) (.seq (.reg ew2) (.join (.block 0 (.loop ep2)) (.seq (.reg ex2) (.seq (.reg ej2) (.seq (.reg ez2) (.ret))))))),[.tmp 6]⟩
theorem vy2 : fD Tryz.prog 104=some c104.er:=by kernel_rfl
set_option maxHeartbeats 4000000 in
theorem ri0 {P:Program}(hP:P=Tryz.prog)(l:(List Int))(n:Int)(limit:Range)(r:(List Int))(h:Ov l n limit=some r):Fn1 P 104 [LG l,G8 n,uj2 limit] (LG r):=by
 refine .mJ (hP▸vy2) fun K hK=>?_;unfold Ov at h;cbv;refine .g h (fun (v1:Bool)=>[dq aH l,oi n]++rp 21 .top++[ob v1]++rp 29 .top) (fun v1=>[]) (fun y hm Kn1 aC=>?_) fun t h=>?_
 ·have h:=hm;clear hm;cbv;refine aG h ?_ ?_<;>intro h
  ·cbv;obtain rfl:=oj h;exact aC _ _ _ rfl (.nz (.aB [] mx))
  ·cbv;refine aG h ?_ ?_<;>intro h
   ·cbv;obtain rfl:=oj h;exact aC _ _ _ rfl (.nz (.aB [] mx))
   ·cbv;refine .g h (fun v hv=>WJ hP _ _ v hv) aJ rfl (fun _=>rfl) fun v2 h=>?_;cbv;obtain rfl:=oj h;exact aC _ _ _ rfl (.nz (.aB [] mx))
 obtain⟨v1,rfl⟩:=ez t;cbv;refine aG h ?_ ?_<;>intro h
 ·cbv;obtain rfl:=oj h;exact hK _ _ aJ
 ·cbv;refine .g h (fun (at3:Int)=>[dq aH l,oi n]++rp 5 .top++[oi at3]++rp 45 .top) (fun at3=>[]) (fun y hm Kn1 aC=>?_) fun t h=>?_
  ·have h:=hm;clear hm;cbv;refine .g h (fun (at4:Int)=>[dq aH l,oi n]++rp 5 .top++[oi at4]++rp 45 .top) (fun at4=>[]) (.nz (.aB [] ?_)) fun s x h hr2 Kn2 bg=>?_
   ·exact mx
   unfold OE at h;obtain⟨at4,rfl⟩:=ez s;cbv;refine .g h (fun (v5:Bool)=>[dq aH l,oi n]++rp 5 .top++[oi at4]++rp 28 .top++[ob v5]++rp 16 .top) (fun v5=>[]) (fun y hm Kn3 aP=>?_) fun t h=>?_
   ·have h:=hm;clear hm;cbv;refine aG h ?_ ?_<;>intro h
    ·cbv;refine .g h (fun _=>rfl) fun x6 h=>?_;cbv;obtain rfl:=oj h;exact aP _ _ _ rfl (.nz (.aB [] mx))
    ·cbv;obtain rfl:=oj h;exact aP _ _ _ rfl (.nz (.aB [] mx))
   obtain⟨v5,rfl⟩:=ez t;cbv;refine aG h ?_ ?_<;>intro h
   ·cbv;obtain rfl:=oj h;exact bg _ _ _ rfl (.nz (.aB [] mx))
   ·cbv;obtain rfl:=oj h;obtain rfl:=hr2 _ rfl;exact aC _ _ _ rfl (.nz (.aB [] mx))
  obtain⟨at3,rfl⟩:=ez t;cbv;refine .g (e:=aH) h (jP _) fun l7 h=>?_;cbv;refine .g h (fun _=>rfl) fun l8 h=>?_;cbv;refine .g h rfl (fun _=>rfl) (by decide) fun RP h=>?_;cbv;refine .g (e:=aH) h (gU aJ (jP _)) fun l10 h=>?_;cbv;refine .g h rfl (fun _=>rfl) (by decide) fun JC h=>?_;cbv;refine .g h (fun _=>rfl) fun l12 h=>?_;cbv;refine .g h rfl (fun _=>rfl) (by decide) fun SK h=>?_;cbv;obtain rfl:=oj h;exact hK _ _ aJ
def jy3 : List ah:=gS 6 [.mv cn]
def jw3 : List ah:=gS 11 [.call 20 [],.mv 1,.lD 10 2 true 11 12]++gS 7 [.alloc 52 (.agg #[oz,oz])]++[⟨none,.store 2 7 13,none⟩]
def jv3 : List ah:=gS 8 [.mv cn]
def jk3 : List ah:=gS 9 [.mv (ci 0)]
def jx3 : List ah:=gS 14 [.mv 9,.mv 2,.len false 15,.bin .lss 14 16]
def jj3 : List ah:=gS 20 [.mv 0,.aO 20,.aj 1 21,.load 1 false 22,.mv 2,.mv 9,.aQ 1 24 25,.load 1 false 26,.mv 1,.aQ 20 23 27,.eH 10 2 29 28,.load 2 true 30]++gS 10 [.alloc 52 (.agg #[oz,oz])]++[⟨none,.store 2 10 31,none⟩]
def jz3 : List ah:=gS 32 [.mv 8,.aj 0 10,.load 1 false 33,.load 2 true 7,.call 104 [32,34,35]]++gS 8 [.mv 36]
def jq3 : List ah:=gS 37 [.mv 8,.aj 1 10,.load 1 false 38,.bin .add 39 (ci 1),.load 2 true 7,.call 104 [37,40,41]]++gS 8 [.mv 42]
def yu3 : List ah:=gS 18 [.mv 9,.bin .add 18 (ci 1)]++gS 9 [.mv 19]
def jb3 : DE:=.seq (.seq (.reg jx3) (.cond 17 (.skip) (.exit 0))) (.seq (.block 1 (.join (.par true true true 13 jj3) (.seq (.reg jz3) (.reg jq3)))) (.reg yu3))
def fm2 : List ah:=gS 43 [.mv 8]++gS 6 [.mv 43]
def c78 : fJ:=⟨44,.seq (.reg jy3) (.join (.reg jw3) (.seq (.reg jv3) (.join (.seq (.reg jk3) (.block 0 (.loop jb3))) (.seq (.reg fm2) (.ret))))),[.tmp 6]⟩
theorem fc2 : fD Tryz.prog 78=some c78.er:=by kernel_rfl
set_option maxHeartbeats 8000000 in
theorem jz2 {P:Program}(hP:P=Tryz.prog)(rules:(List Rule))(zones:(List (aF Range)))(at0:Int)(lv:(List Int))(nodes:(List Node))(leaves:(List Decision))(attr:(List Int))(live:(List (List Int)))(made:(List Int))(full:Bool)(r:(List Int))(h:VG rules zones at0 lv nodes leaves attr live made full=some r):dX P 78 [.cells [dq aZ rules,dq dD zones,.hd 1,.hd 2,.hd 3,.hd 4,.hd 5,ob full] 90,rE nodes,rF leaves,rC attr,rD live,rC made] [.ptr 0 0,oi at0,dq aH lv] (fun sv own'=>sv=dq aH r/\own'=[.cells [dq aZ rules,dq dD zones,.hd 1,.hd 2,.hd 3,.hd 4,.hd 5,ob full] 90,rE nodes,rF leaves,rC attr,rD live,rC made]):=by
 refine .walkT [0,1,2,3,4,5] 6 rfl rfl (by decide) (by decide) (hP▸fc2) fun K hK=>?_;unfold VG at h;cbv;refine .g h (fun ((Hq,Ht):Int×Int)=>[.ptr 0 0,oi at0,dq aH lv]++rp 4 .top++[.ptr 6 0]++rp 36 .top) (fun (Hq,Ht)=>[.cells [dq aZ rules,dq dD zones,.hd 1,.hd 2,.hd 3,.hd 4,.hd 5,ob full] 90,rE nodes,rF leaves,rC attr,rD live,rC made,.cells [oi Hq,oi Ht] 52]) (fun y hm Kn1 aC=>?_) fun t h=>?_
 ·have h:=hm;clear hm;cbv;refine .g h (fun v hv=>Jb hP v hv) aJ rfl (fun _=>rfl) fun v3 h=>?_;cbv
  refine .c10 h ?_ ?_ ?_ ?_ ?_ ?_ ?_ ?_ ?_ ?_<;>(
   intro hni4 h;cbv;obtain rfl:=oj h;exact aC _ _ _ rfl (.nz (.aB [0,1,2,3,4,5,6] mx))
   )
 obtain⟨Hq,Ht⟩:=t;cbv;refine .g h (fun (nM:(List Int))=>rp 8 .top++[dq aH nM]++rp 35 .top) (fun nM=>[.cells [dq aZ rules,dq dD zones,.hd 1,.hd 2,.hd 3,.hd 4,.hd 5,ob full] 90,rE nodes,rF leaves,rC attr,rD live,rC made]) (fun y hm Kn1 aC=>?_) fun t h=>?_
 ·have h:=hm;clear hm;cbv;refine .g h (fun ((out6,i7):(List Int)×Int)=>[.ptr 0 0,oi at0,dq aH lv]++rp 4 .top++[.ptr 6 0,dq aH out6,oi i7]++rp 34 .top) (fun (out6,i7)=>[.cells [dq aZ rules,dq dD zones,.hd 1,.hd 2,.hd 3,.hd 4,.hd 5,ob full] 90,rE nodes,rF leaves,rC attr,rD live,rC made,.cells [oi Hq,oi Ht] 52]) (.nz (.aB [0,1,2,3,4,5,6] ?_)) fun s x h hr2 Kn2 bg=>?_
  ·exact mx
  unfold RI at h;obtain⟨out6,i7⟩:=s;cbv;refine aG h ?_ ?_<;>intro h
  ·cbv;refine .g h (fun ((Dh,zi,lY):Int×Int×Int)=>[.ptr 0 0,oi at0,dq aH lv]++rp 4 .top++[.ptr 6 0,dq aH out6,oi Dh,.ptr 7 0]++rp 33 .top) (fun (Dh,zi,lY)=>[.cells [dq aZ rules,dq dD zones,.hd 1,.hd 2,.hd 3,.hd 4,.hd 5,ob full] 90,rE nodes,rF leaves,rC attr,rD live,rC made,.cells [oi Hq,oi Ht] 52,.cells [oi zi,oi lY] 52]) (fun y hm Kn3 aP=>?_) fun t h=>?_
   ·have h:=hm;clear hm;cbv;refine .g h (fun _=>rfl) fun x11 h=>?_;cbv;refine .g h (fun _=>rfl) fun x12 h=>?_;cbv
    refine .c10 h ?_ ?_ ?_ ?_ ?_ ?_ ?_ ?_ ?_ ?_<;>(
     intro Uw h;cbv;obtain rfl:=oj h;exact aP _ _ _ rfl (.nz (.aB [0,1,2,3,4,5,6,7] mx))
     )
   obtain⟨Dh,zi,lY⟩:=t;cbv;refine .g h (fun v hv=>ri0 hP _ _ _ v hv) aJ rfl (fun _=>rfl) fun nH h=>?_;cbv;refine .g h (fun v hv=>ri0 hP _ _ _ v hv) aJ rfl (fun _=>rfl) fun JB h=>?_;cbv;obtain rfl:=oj h;exact bg _ _ _ rfl (.nz (.aB [0,1,2,3,4,5,6] mx))
  ·cbv;obtain rfl:=oj h;obtain rfl:=hr2 _ rfl;exact aC _ _ _ rfl (.nz (.aB [0,1,2,3,4,5] mx))
 obtain⟨nM,rfl⟩:=ez t;cbv;obtain rfl:=oj h;exact hK _ _ mx
def so3 : List ah:=gS 2 [.box 50 0,.box 50 1,.mv (cB false)]
def si3 : List ah:=gS 5 [.aj 0 2,.load 1 false 5,.aj 0 3,.load 1 false 7,.bin .eql 6 8,.mv 9]++gQ 10 true 11 [.aj 3 2,.load 1 false 11,.aj 3 3,.load 1 false 13,.bin .eql 12 14]++gS 16 [.pick 10 15 (cB false),.mv 16]++gQ 17 true 18 [.aj 1 2,.load 1 false 18,.aj 1 3,.load 1 false 20,.call 60 [19,21]]++gS 23 [.pick 17 22 (cB false),.mv 23]++gQ 24 true 25 [.aj 2 2,.load 1 false 25,.aj 2 3,.load 1 false 27,.call 60 [26,28]]++gS 30 [.pick 24 29 (cB false)]++gS 4 [.mv 30]
def c29 : fJ:=⟨31,.seq (.reg so3) (.seq (.reg si3) (.ret)),[.tmp 4]⟩
theorem ml2 : fD Tryz.prog 29=some c29.er:=by kernel_rfl
set_option maxHeartbeats 4000000 in
theorem lv0 {P:Program}(hP:P=Tryz.prog)(a:Node)(b:Node)(r:Bool)(h:L9 a b=some r):Fn1 P 29 [La a,La b] (vB r):=by
 refine .mJ (hP▸ml2) fun K hK=>?_;unfold L9 at h;cbv;refine aG h ?_ ?_<;>intro h
 ·cbv;refine aG h ?_ ?_<;>intro h
  ·cbv;refine .g h (fun v hv=>df0 hP _ _ v hv) aJ rfl (fun _=>rfl) fun v1 h=>?_;cbv;refine aG h ?_ ?_<;>intro h
   ·cbv;refine .g h (fun v hv=>df0 hP _ _ v hv) aJ rfl (fun _=>rfl) fun v2 h=>?_;cbv;obtain rfl:=oj h;exact hK _ _ aJ
   ·cbv;obtain rfl:=oj h;exact hK _ _ aJ
  ·cbv;obtain rfl:=oj h;exact hK _ _ aJ
 ·cbv;obtain rfl:=oj h;exact hK _ _ aJ
end Go.SX.Td
