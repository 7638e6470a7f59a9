/- Parts of the proof. -/
import Derived.Test.YtllbabjgpdmblaaGreatDoorZTdT
import Derived.Test.YtllbabjgpdmblaaGreatDoorZTd49
import Derived.Test.YtllbabjgpdmblaaGreatDoorZTd26d
set_option linter.unusedSimpArgs false
set_option linter.unusedVariables false
set_option linter.unusedSectionVars false
namespace Go.SX.Td
open Go Go.SX Go.Proofs
set_option maxRecDepth 100000
def ua3 : List GOp:=gS 0 [.alloc 54 (.agg #[oz,oz,oz,oz,oz,oz,oz,oz,oz,oz,oz,oz,oz,oz,oz,oz,oz,oz,oz,oz])]
def ur3 : List GOp:=gS 1 [.alloc 54 (.agg #[oz,oz,oz,oz,oz,oz,oz,oz,oz,oz,oz,oz,oz,oz,oz,oz,oz,oz,oz,oz])]
def un3 : List GOp:=gS 4 [.bslice 3 1 10 oz [(0,(ci 1000000000)),(1,(ci 150)),(2,(ci 1)),(3,(ci 19)),(4,(ci 7)),(5,(ci 319)),(6,(ci 3)),(7,(ci 3)),(8,(ci 12)),(9,(ci 100))]]++gS 2 [.mv 4]
def us3 : List GOp:=gS 3 [.mv (ci 0)]
def ut3 : List GOp:=gS 5 [.mv 3,.mv 2,.len false 6,.bin .lss 5 7]
def ul3 : List GOp:=gS 11 [.mv 3,.mv 2,.mv 3,.idxA 1 12 13,.load 1 false 14,.idxP 10 2 1 11,.fadd 1 16]++[⟨none,.store 1 17 15,none⟩]
def ud3 : List GOp:=gS 9 [.mv 3,.bin .add 9 (ci 1)]++gS 3 [.mv 10]
def ue3 : DE:=.seq (.seq (.reg ut3) (.cond 8 (.skip) (.exit 0))) (.join (.block 1 (.reg ul3)) (.reg ud3))
def uc3 : List GOp:=gS 18 [.idxP 10 2 1 (ci 8),.fadd 0 18]++[⟨none,.store 1 19 (ci 1),none⟩]
def um3 : List GOp:=gS 20 [.load 20 true 1]++[⟨none,.store 20 0 20,none⟩]
def c20 : EFn:=⟨21,.seq (.reg ua3) (.seq (.reg ur3) (.seq (.reg un3) (.join (.seq (.reg us3) (.block 0 (.loop ue3))) (.seq (.reg uc3) (.seq (.reg um3) (.ret)))))),[.cell 0 20 true]⟩
theorem sf2 : zv0 Tryz.prog 20=some c20.er:=by kernel_rfl
set_option maxHeartbeats 4000000 in
theorem xo0 {P:Program}(hP:P=Tryz.prog)(r:(A10 Range))(h:zr0=some r):Fn1 P 20 [] (dy0 r):=by
 refine .vz0 (hP▸sf2) fun K hK=>?_;unfold zr0 at h;cbv;refine .g (e:=qq0) h (qd0 aw_ (qd0 aw_ (qd0 aw_ (qd0 aw_ (qd0 aw_ (qd0 aw_ (qd0 aw_ (qd0 aw_ (qd0 aw_ (qd0 aw_ (zw0 _))))))))))) fun high1 h=>?_;cbv;refine .g h (fun (z2:(A10 Range))=>[.ptr 0 0,.ptr 1 0]++rp 19 .top) (fun z2=>[.cells [oi 0,oi 0,oi 0,oi 0,oi 0,oi 0,oi 0,oi 0,oi 0,oi 0,oi 0,oi 0,oi 0,oi 0,oi 0,oi 0,oi 0,oi 0,oi 0,oi 0] 54,.cells (cR z2) 54]) (fun y hm Kn1 hKn1=>?_) fun t h=>?_
 ·have h:=hm;clear hm;cbv;refine .g h (fun ((z3,i4):(A10 Range)×Int)=>[.ptr 0 0,.ptr 1 0,.hd 2,oi i4]++rp 17 .top) (fun (z3,i4)=>[.cells [oi 0,oi 0,oi 0,oi 0,oi 0,oi 0,oi 0,oi 0,oi 0,oi 0,oi 0,oi 0,oi 0,oi 0,oi 0,oi 0,oi 0,oi 0,oi 0,oi 0] 54,.cells (cR z3) 54,rA high1]) (.nz (.mtE [0,1,2] ?_)) fun s x h hr2 Kn2 hKn2=>?_
  ·exact mx
  unfold jy0 at h;obtain⟨z3,i4⟩:=s;cbv;refine qf0 h ?_ ?_<;>intro h
  ·cbv;refine .g h (fun (z5:(A10 Range))=>[.ptr 0 0,.ptr 1 0,.hd 2,oi i4]++rp 17 .top) (fun z5=>[.cells [oi 0,oi 0,oi 0,oi 0,oi 0,oi 0,oi 0,oi 0,oi 0,oi 0,oi 0,oi 0,oi 0,oi 0,oi 0,oi 0,oi 0,oi 0,oi 0,oi 0] 54,.cells (cR z5) 54,rA high1]) (fun y hm Kn3 hKn3=>?_) fun t h=>?_
   ·have h:=hm;clear hm;cbv;refine .g h fun i6 h=>?_;cbv;refine .g h fun v7 h=>?_;cbv
    refine .c10 h ?_ ?_ ?_ ?_ ?_ ?_ ?_ ?_ ?_ ?_<;>(
     intro hnix8 h;cbv;obtain rfl:=oj h;exact hKn3 _ _ _ rfl (.nz (.mtE [0,1,2] mx))
     )
   obtain⟨z5,rfl⟩:=ez t;cbv;obtain rfl:=oj h;exact hKn2 _ _ _ rfl (.nz (.mtE [0,1,2] mx))
  ·cbv;obtain rfl:=oj h;obtain rfl:=hr2 _ rfl;exact hKn1 _ _ _ rfl (.nz (.mtE [0,1] mx))
 obtain⟨z2,rfl⟩:=ez t;cbv;refine .lit 8 rfl (by decide) ?_;cbv;obtain rfl:=oj h;exact hK _ _ aw_
end Go.SX.Td
namespace Go.SX.Td
open Go Go.SX Go.Proofs
set_option maxRecDepth 100000
def cr2 : List GOp:=gS 2 [.box 42 0]++gS 4 [.mv (cB false)]
def cn2 : List GOp:=gS 5 [.fadd 1 2,.load 1 false 5,.bin .geq 6 (ci 1),.mv 7]++gQ 8 true 9 [.fadd 1 2,.load 1 false 9,.bin .leq 10 (ci 1000000)]++gS 12 [.pick 8 11 (cB false),.mv 12]++gQ 13 true 14 [.fadd 0 2,.load 1 false 14,.bin .geq 15 (ci 0)]++gS 17 [.pick 13 16 (cB false),.mv 17]++gQ 18 true 19 [.fadd 0 2,.load 1 false 19,.mv 1,.fadd 1 2,.load 1 false 22,.bin .mul 21 23,.bin .leq 20 24]++gS 26 [.pick 18 25 (cB false),.mv 26]++gQ 27 true 28 [.fadd 0 2,.load 1 false 28,.bin .leq 29 (ci 1000000)]++gS 31 [.pick 27 30 (cB false)]++gS 4 [.mv 31]
def c87 : EFn:=⟨32,.seq (.reg cr2) (.seq (.reg cn2) (.ret)),[.tmp 4]⟩
theorem wl1 : zv0 Tryz.prog 87=some c87.er:=by kernel_rfl
def zo3 : List GOp:=gS 1 [.box 58 0,.mv (cB false)]
def zi3 : List GOp:=gS 3 [.fadd 0 1,.load 1 false 3,.bin .eql 4 (ci 1)]
def ze3 : List GOp:=gS 6 [.fadd 3 1,.load 1 false 6,.bin .geq 7 (ci 0),.mv 8]++gQ 9 true 10 [.fadd 3 1,.load 1 false 10,.bin .leq 11 (ci 100)]++gS 13 [.pick 9 12 (cB false)]++gS 2 [.mv 13]
def za3 : List GOp:=gS 14 [.fadd 0 1,.load 1 false 14,.bin .eql 15 (ci 3)]
def zr3 : List GOp:=gS 17 [.fadd 3 1,.load 1 false 17,.bin .geq 18 (ci 0),.mv 19]++gQ 20 true 21 [.fadd 3 1,.load 1 false 21,.bin .leq 22 (ci 10000000)]++gS 24 [.pick 20 23 (cB false),.mv 24]++gQ 25 true 26 [.fadd 4 1,.load 2 true 26,.call 87 [27,(ci 1)]]++gS 29 [.pick 25 28 (cB false),.mv 29]++gQ 30 true 31 [.fadd 6 1,.load 2 true 31,.call 87 [32,(ci 1)]]++gS 34 [.pick 30 33 (cB false)]++gS 2 [.mv 34]
def zn3 : List GOp:=gS 35 [.fadd 0 1,.load 1 false 35,.bin .eql 36 (ci 4)]
def zs3 : List GOp:=gS 38 [.fadd 4 1,.load 2 true 38,.call 87 [39,(ci 10)],.mv 40]++gQ 41 true 42 [.fadd 6 1,.load 2 true 42,.call 87 [43,(ci 1)]]++gS 45 [.pick 41 44 (cB false)]++gS 2 [.mv 45]
def zt3 : List GOp:=gS 46 [.fadd 0 1,.load 1 false 46,.bin .eql 47 (ci 5)]
def zl3 : List GOp:=gS 49 [.fadd 4 1,.load 2 true 49,.call 87 [50,(ci 1)]]++gS 2 [.mv 51]
def zd3 : List GOp:=gS 52 [.fadd 0 1,.load 1 false 52,.bin .eql 53 (ci 2),.mv 54]++gQ 55 false 56 [.fadd 0 1,.load 1 false 56,.bin .eql 57 (ci 6)]++gS 59 [.pick 55 (cB true) 58,.mv 59]++gQ 60 false 61 [.fadd 0 1,.load 1 false 61,.bin .eql 62 (ci 7)]++gS 64 [.pick 60 (cB true) 63]++gS 2 [.mv 64]
def c56 : EFn:=⟨65,.seq (.reg zo3) (.seq (.seq (.reg zi3) (.cond 5 (.seq (.reg ze3) (.ret)) (.skip))) (.seq (.seq (.reg za3) (.cond 16 (.seq (.reg zr3) (.ret)) (.skip))) (.seq (.seq (.reg zn3) (.cond 37 (.seq (.reg zs3) (.ret)) (.skip))) (.seq (.seq (.reg zt3) (.cond 48 (.seq (.reg zl3) (.ret)) (.skip))) (.seq (.reg zd3) (.ret)))))),[.tmp 2]⟩
theorem kg2 : zv0 Tryz.prog 56=some c56.er:=by kernel_rfl
set_option maxHeartbeats 4000000 in
theorem bt0 {P:Program}(hP:P=Tryz.prog)(r_:Rule)(r:Bool)(h:kh0 r_=some r):Fn1 P 56 [sz1 r_] (vB r):=by
 refine .vz0 (hP▸kg2) fun K hK=>?_;unfold kh0 at h;cbv;refine qf0 h ?_ ?_<;>intro h
 ·cbv;refine qf0 h ?_ ?_<;>intro h
  ·cbv;obtain rfl:=oj h;exact hK _ _ aw_
  ·cbv;obtain rfl:=oj h;exact hK _ _ aw_
 ·cbv;refine qf0 h ?_ ?_<;>intro h
  ·cbv;refine qf0 h ?_ ?_<;>intro h
   ·cbv;refine qf0 h ?_ ?_<;>intro h
    ·cbv;refine .inl (hP▸wl1) ?_;cbv;refine qf0 h ?_ ?_<;>intro h
     ·cbv;refine qf0 h ?_ ?_<;>intro h
      ·cbv;refine qf0 h ?_ ?_<;>intro h
       ·cbv;refine qf0 h ?_ ?_<;>intro h
        ·cbv;refine qf0 h ?_ ?_<;>intro h
         ·cbv;refine .inl (hP▸wl1) ?_;cbv;refine qf0 h ?_ ?_<;>intro h
          ·cbv;refine qf0 h ?_ ?_<;>intro h
           ·cbv;refine qf0 h ?_ ?_<;>intro h
            ·cbv;refine qf0 h ?_ ?_<;>intro h
             ·cbv;obtain rfl:=oj h;exact hK _ _ aw_
             ·cbv;obtain rfl:=oj h;exact hK _ _ aw_
            ·cbv;obtain rfl:=oj h;exact hK _ _ aw_
           ·cbv;obtain rfl:=oj h;exact hK _ _ aw_
          ·cbv;obtain rfl:=oj h;exact hK _ _ aw_
         ·cbv;obtain rfl:=oj h;exact hK _ _ aw_
        ·cbv;obtain rfl:=oj h;exact hK _ _ aw_
       ·cbv;obtain rfl:=oj h;exact hK _ _ aw_
      ·cbv;obtain rfl:=oj h;exact hK _ _ aw_
     ·cbv;obtain rfl:=oj h;exact hK _ _ aw_
    ·cbv;obtain rfl:=oj h;exact hK _ _ aw_
   ·cbv;obtain rfl:=oj h;exact hK _ _ aw_
  ·cbv;refine qf0 h ?_ ?_<;>intro h
   ·cbv;refine .inl (hP▸wl1) ?_;cbv;refine qf0 h ?_ ?_<;>intro h
    ·cbv;refine qf0 h ?_ ?_<;>intro h
     ·cbv;refine qf0 h ?_ ?_<;>intro h
      ·cbv;refine qf0 h ?_ ?_<;>intro h
       ·cbv;refine qf0 h ?_ ?_<;>intro h
        ·cbv;refine .inl (hP▸wl1) ?_;cbv;refine qf0 h ?_ ?_<;>intro h
         ·cbv;refine qf0 h ?_ ?_<;>intro h
          ·cbv;refine qf0 h ?_ ?_<;>intro h
           ·cbv;refine qf0 h ?_ ?_<;>intro h
            ·cbv;obtain rfl:=oj h;exact hK _ _ aw_
            ·cbv;obtain rfl:=oj h;exact hK _ _ aw_
           ·cbv;obtain rfl:=oj h;exact hK _ _ aw_
          ·cbv;obtain rfl:=oj h;exact hK _ _ aw_
         ·cbv;obtain rfl:=oj h;exact hK _ _ aw_
        ·cbv;obtain rfl:=oj h;exact hK _ _ aw_
       ·cbv;obtain rfl:=oj h;exact hK _ _ aw_
      ·cbv;obtain rfl:=oj h;exact hK _ _ aw_
     ·cbv;obtain rfl:=oj h;exact hK _ _ aw_
    ·cbv;obtain rfl:=oj h;exact hK _ _ aw_
   ·cbv;refine qf0 h ?_ ?_<;>intro h
    ·cbv;refine .inl (hP▸wl1) ?_;cbv;refine qf0 h ?_ ?_<;>intro h
     ·cbv;refine qf0 h ?_ ?_<;>intro h
      ·cbv;refine qf0 h ?_ ?_<;>intro h
       ·cbv;refine qf0 h ?_ ?_<;>intro h
        ·cbv;obtain rfl:=oj h;exact hK _ _ aw_
        ·cbv;obtain rfl:=oj h;exact hK _ _ aw_
       ·cbv;obtain rfl:=oj h;exact hK _ _ aw_
      ·cbv;obtain rfl:=oj h;exact hK _ _ aw_
     ·cbv;obtain rfl:=oj h;exact hK _ _ aw_
    ·cbv;refine qf0 h ?_ ?_<;>intro h
     ·cbv;obtain rfl:=oj h;exact hK _ _ aw_
     ·cbv;refine qf0 h ?_ ?_<;>intro h
      ·cbv;obtain rfl:=oj h;exact hK _ _ aw_
      ·cbv;obtain rfl:=oj h;exact hK _ _ aw_
end Go.SX.Td
namespace Go.SX.Td
open Go Go.SX Go.Proofs
set_option maxRecDepth 100000
def uw3 : List GOp:=gS 1 [.box 24 0,.mv (cB false)]
def uv3 : List GOp:=gS 9 [.fadd 0 1,.load 1 false 9,.len false 10,.bin .gtr 11 (ci 200)]
def uk3 : List GOp:=gS 2 [.mv (cB false)]
def ux3 : List GOp:=gS 13 [.call 20 []]++gS 3 [.alloc 54 (.agg #[oz,oz,oz,oz,oz,oz,oz,oz,oz,oz,oz,oz,oz,oz,oz,oz,oz,oz,oz,oz])]++[⟨none,.store 20 3 13,none⟩]
def uj3 : List GOp:=gS 4 [.mv (ci 0)]
def uq3 : List GOp:=gS 14 [.mv 4,.fadd 0 1,.load 1 false 15,.len false 16,.bin .lss 14 17]
def xu3 : List GOp:=gS 21 [.fadd 0 1,.load 1 false 21,.mv 4,.idxA 8 22 23,.load 8 true 24]++gS 5 [.alloc 58 (.agg #[oz,(.string ⟨#[]⟩),(.slice none 0 0),oz,oz,oz,oz,oz])]++[⟨none,.store 8 5 25,none⟩]
def xo3 : List GOp:=gS 26 [.load 8 true 5,.call 56 [26],.un .not 27,.mv 28]++gQ 29 false 30 [.fadd 2 5,.load 1 false 30,.len false 31,.bin .gtr 32 (ci 200)]++gS 34 [.pick 29 (cB true) 33]
def xi3 : List GOp:=gS 2 [.mv (cB false)]
def xe3 : List GOp:=gS 6 [.mv (ci 0)]
def sj2 : List GOp:=gS 35 [.mv 6,.fadd 2 5,.load 1 false 36,.len false 37,.bin .lss 35 38]
def sz2 : List GOp:=gS 7 [.mv (ci 0)]
def sq2 : List GOp:=gS 42 [.mv 7,.bin .lss 42 (ci 10)]
def du2 : List GOp:=gS 46 [.fadd 2 5,.load 1 false 46,.mv 6,.mv 7,.idxA 20 47 48,.idxP 10 2 50 49,.fadd 0 51,.load 1 false 52,.fadd 2 5,.load 1 false 54,.mv 6,.mv 7,.idxA 20 55 56,.idxP 10 2 58 57,.fadd 1 59,.load 1 false 60,.bin .gtr 53 61,.mv 62]++gQ 63 false 64 [.fadd 2 5,.load 1 false 64,.mv 6,.mv 7,.idxA 20 65 66,.idxP 10 2 68 67,.fadd 0 69,.load 1 false 70,.mv 7,.idxP 10 2 3 72,.fadd 0 73,.load 1 false 74,.bin .lss 71 75]++gS 77 [.pick 63 (cB true) 76,.mv 77]++gQ 78 false 79 [.fadd 2 5,.load 1 false 79,.mv 6,.mv 7,.idxA 20 80 81,.idxP 10 2 83 82,.fadd 1 84,.load 1 false 85,.mv 7,.idxP 10 2 3 87,.fadd 1 88,.load 1 false 89,.bin .gtr 86 90]++gS 92 [.pick 78 (cB true) 91]
def do2 : List GOp:=gS 2 [.mv (cB false)]
def di2 : List GOp:=gS 44 [.mv 7,.bin .add 44 (ci 1)]++gS 7 [.mv 45]
def sw2 : DE:=.seq (.seq (.reg sq2) (.cond 43 (.skip) (.exit 4))) (.seq (.block 5 (.join (.par true true true 45 du2) (.cond 92 (.seq (.reg do2) (.ret)) (.skip)))) (.reg di2))
def de2 : List GOp:=gS 40 [.mv 6,.bin .add 40 (ci 1)]++gS 6 [.mv 41]
def sv2 : DE:=.seq (.seq (.reg sj2) (.cond 39 (.skip) (.exit 2))) (.join (.block 3 (.seq (.reg sz2) (.block 4 (.loop sw2)))) (.reg de2))
def da2 : List GOp:=gS 8 [.mv (ci 0)]
def dr2 : List GOp:=gS 93 [.mv 8,.mv 4,.bin .lss 93 94]
def dn2 : List GOp:=gS 98 [.fadd 0 1,.load 1 false 98,.mv 8,.idxA 8 99 100,.fadd 1 101,.load 1 false 102,.fadd 1 5,.load 1 false 104,.bin .eql 103 105]
def dt2 : List GOp:=gS 2 [.mv (cB false)]
def dl2 : List GOp:=gS 96 [.mv 8,.bin .add 96 (ci 1)]++gS 8 [.mv 97]
def sk2 : DE:=.seq (.seq (.reg dr2) (.cond 95 (.skip) (.exit 6))) (.seq (.block 7 (.seq (.par true true true 8 dn2) (.cond 106 (.seq (.reg dt2) (.ret)) (.skip)))) (.reg dl2))
def dd2 : List GOp:=gS 19 [.mv 4,.bin .add 19 (ci 1)]++gS 4 [.mv 20]
def sx2 : DE:=.seq (.seq (.reg uq3) (.cond 18 (.skip) (.exit 0))) (.join (.block 1 (.seq (.reg xu3) (.seq (.join (.reg xo3) (.cond 34 (.seq (.reg xi3) (.ret)) (.skip))) (.join (.seq (.reg xe3) (.block 2 (.loop sv2))) (.seq (.reg da2) (.block 6 (.loop sk2))))))) (.reg dd2))
def dc2 : List GOp:=gS 2 [.mv (cB true)]
def c25 : EFn:=⟨107,.seq (.reg uw3) (.seq (.seq (.reg uv3) (.cond 12 (.seq (.reg uk3) (.ret)) (.skip))) (.seq (.reg ux3) (.join (.seq (.reg uj3) (.block 0 (.loop sx2))) (.seq (.reg dc2) (.ret))))),[.tmp 2]⟩
theorem sy2 : zv0 Tryz.prog 25=some c25.er:=by kernel_rfl
set_option maxHeartbeats 4000000 in
theorem if0 {P:Program}(hP:P=Tryz.prog)(p:Policy)(r:Bool)(h:vo0 p=some r):Fn1 P 25 [ud0 p] (vB r):=by
 refine .vz0 (hP▸sy2) fun K hK=>?_;unfold vo0 at h;cbv;refine qf0 h ?_ ?_<;>intro h
 ·cbv;obtain rfl:=oj h;exact hK _ _ aw_
 ·cbv;refine .g h (fun v hv=>xo0 hP v hv) aw_ rfl (fun _=>rfl) fun v1 h=>?_;cbv;refine .ga h (fun (_:Unit)=>rp 107 .top) (fun _=>[]) (fun y hm hr1 Kn1 hKn1=>?_) fun t h=>?_
  ·have h:=hm;clear hm;cbv;refine .g h (fun (i2:Int)=>[.top,.ptr 0 0,.top,.ptr 1 0,oi i2]++rp 102 .top) (fun i2=>[.cells [dq qp0 p.Rules] 24,.cells (cR v1) 54]) (.nz (.mtE [0,1] ?_)) fun s x h hr2 Kn2 hKn2=>?_
   ·exact mx
   unfold jn0 at h;obtain⟨i2,rfl⟩:=ez s;cbv;refine qf0 h ?_ ?_<;>intro h
   ·cbv;refine .ga h (fun (_:Unit)=>[.top,.ptr 0 0,.top,.ptr 1 0,oi i2]++rp 102 .top) (fun _=>[.cells [dq qp0 p.Rules] 24,.cells (cR v1) 54]) (fun y hm hr3 Kn3 hKn3=>?_) fun t h=>?_
    ·have h:=hm;clear hm;cbv;refine .g h (fun _=>rfl) fun x3 h=>?_;cbv;refine .g h (fun (v4:Bool)=>[.top,.ptr 0 0,.top,.ptr 1 0,oi i2,.ptr 2 0]++rp 28 .top++[ob v4]++rp 72 .top) (fun v4=>[.cells [dq qp0 p.Rules] 24,.cells (cR v1) 54,.cells [oi x3.Kind,.d (.val (.string x3.Name)),dq qj0 x3.Zones,oi x3.N,oi x3.R.Num,oi x3.R.Den,oi x3.S.Num,oi x3.S.Den] 58]) (fun y hm Kn4 hKn4=>?_) fun t h=>?_
     ·have h:=hm;clear hm;cbv;refine .g h (fun v hv=>bt0 hP _ v hv) aw_ rfl (fun _=>rfl) fun v5 h=>?_;cbv;refine qf0 h ?_ ?_<;>intro h
      ·cbv;obtain rfl:=oj h;exact hKn4 _ _ _ rfl (.nz (.mtE [0,1,2] mx))
      ·cbv;obtain rfl:=oj h;exact hKn4 _ _ _ rfl (.nz (.mtE [0,1,2] mx))
     obtain⟨v4,rfl⟩:=ez t;cbv;refine qf0 h ?_ ?_<;>intro h
     ·cbv;obtain rfl:=oj h;obtain rfl:=hr3 _ rfl;obtain rfl:=hr2 _ rfl;obtain rfl:=hr1 _ rfl;exact hK _ _ aw_
     ·cbv;refine .ga h (fun (_:Unit)=>[.top,.ptr 0 0,.top,.ptr 1 0,oi i2,.ptr 2 0]++rp 101 .top) (fun _=>[.cells [dq qp0 p.Rules] 24,.cells (cR v1) 54,.cells [oi x3.Kind,.d (.val (.string x3.Name)),dq qj0 x3.Zones,oi x3.N,oi x3.R.Num,oi x3.R.Den,oi x3.S.Num,oi x3.S.Den] 58]) (fun y hm hr4 Kn4 hKn4=>?_) fun t h=>?_
      ·have h:=hm;clear hm;cbv;refine .g h (fun (k6:Int)=>[.top,.ptr 0 0,.top,.ptr 1 0,oi i2,.ptr 2 0,oi k6]++rp 100 .top) (fun k6=>[.cells [dq qp0 p.Rules] 24,.cells (cR v1) 54,.cells [oi x3.Kind,.d (.val (.string x3.Name)),dq qj0 x3.Zones,oi x3.N,oi x3.R.Num,oi x3.R.Den,oi x3.S.Num,oi x3.S.Den] 58]) (.nz (.mtE [0,1,2] ?_)) fun s x h hr5 Kn5 hKn5=>?_
       ·exact mx
       unfold yv0 at h;obtain⟨k6,rfl⟩:=ez s;cbv;refine qf0 h ?_ ?_<;>intro h
       ·cbv;refine .ga h (fun (_:Unit)=>[.top,.ptr 0 0,.top,.ptr 1 0,oi i2,.ptr 2 0,oi k6]++rp 100 .top) (fun _=>[.cells [dq qp0 p.Rules] 24,.cells (cR v1) 54,.cells [oi x3.Kind,.d (.val (.string x3.Name)),dq qj0 x3.Zones,oi x3.N,oi x3.R.Num,oi x3.R.Den,oi x3.S.Num,oi x3.S.Den] 58]) (fun y hm hr6 Kn6 hKn6=>?_) fun t h=>?_
        ·have h:=hm;clear hm;cbv;refine .g h (fun (a7:Int)=>[.top,.ptr 0 0,.top,.ptr 1 0,oi i2,.ptr 2 0,oi k6,oi a7]++rp 99 .top) (fun a7=>[.cells [dq qp0 p.Rules] 24,.cells (cR v1) 54,.cells [oi x3.Kind,.d (.val (.string x3.Name)),dq qj0 x3.Zones,oi x3.N,oi x3.R.Num,oi x3.R.Den,oi x3.S.Num,oi x3.S.Den] 58]) (.nz (.mtE [0,1,2] ?_)) fun s x h hr7 Kn7 hKn7=>?_
         ·exact mx
         unfold yk0 at h;obtain⟨a7,rfl⟩:=ez s;cbv;refine qf0 h ?_ ?_<;>intro h
         ·cbv;refine .g h (fun (v8:Bool)=>[.top,.ptr 0 0,.top,.ptr 1 0,oi i2,.ptr 2 0,oi k6,oi a7]++rp 84 .top++[ob v8]++rp 14 .top) (fun v8=>[.cells [dq qp0 p.Rules] 24,.cells (cR v1) 54,.cells [oi x3.Kind,.d (.val (.string x3.Name)),dq qj0 x3.Zones,oi x3.N,oi x3.R.Num,oi x3.R.Den,oi x3.S.Num,oi x3.S.Den] 58]) (fun y hm Kn8 hKn8=>?_) fun t h=>?_
          ·have h:=hm;clear hm;cbv;refine .g h (fun _=>rfl) fun x9 h=>?_;cbv
           refine .c10 h ?_ ?_ ?_ ?_ ?_ ?_ ?_ ?_ ?_ ?_<;>(
            intro hni10 h;cbv;refine .g h (fun _=>rfl) fun x11 h=>?_;cbv;refine .at _ hni10 (by decide) ?_;cbv;refine qf0 h ?_ ?_<;>intro h
            ·cbv;obtain rfl:=oj h;exact hKn8 _ _ _ rfl (.nz (.mtE [0,1,2] mx))
            ·cbv;refine .g h (fun _=>rfl) fun x12 h=>?_;cbv;refine .at _ hni10 (by decide) ?_;cbv;refine .at _ hni10 (by decide) ?_;cbv;refine qf0 h ?_ ?_<;>intro h
             ·cbv;obtain rfl:=oj h;exact hKn8 _ _ _ rfl (.nz (.mtE [0,1,2] mx))
             ·cbv;refine .g h (fun _=>rfl) fun x13 h=>?_;cbv;refine .at _ hni10 (by decide) ?_;cbv;refine .at _ hni10 (by decide) ?_;cbv;obtain rfl:=oj h;exact hKn8 _ _ _ rfl (.nz (.mtE [0,1,2] mx))
            )
          obtain⟨v8,rfl⟩:=ez t;cbv;refine qf0 h ?_ ?_<;>intro h
          ·cbv;obtain rfl:=oj h;obtain rfl:=hr7 _ rfl;obtain rfl:=hr6 _ rfl;obtain rfl:=hr5 _ rfl;obtain rfl:=hr4 _ rfl;obtain rfl:=hr3 _ rfl;obtain rfl:=hr2 _ rfl;obtain rfl:=hr1 _ rfl;exact hK _ _ aw_
          ·cbv;obtain rfl:=oj h;exact hKn7 _ _ _ rfl (.nz (.mtE [0,1,2] mx))
         ·cbv;obtain rfl:=oj h;obtain rfl:=hr7 _ rfl;exact hKn6 _ _ _ rfl (.nz (.mtE [0,1,2] mx))
        cbv;obtain rfl:=oj h;exact hKn5 _ _ _ rfl (.nz (.mtE [0,1,2] mx))
       ·cbv;obtain rfl:=oj h;obtain rfl:=hr5 _ rfl;exact hKn4 _ _ _ rfl (.nz (.mtE [0,1,2] mx))
      cbv;refine .g h (fun (k14:Int)=>[.top,.ptr 0 0,.top,.ptr 1 0,oi i2,.ptr 2 0,.top,.top,oi k14]++rp 98 .top) (fun k14=>[.cells [dq qp0 p.Rules] 24,.cells (cR v1) 54,.cells [oi x3.Kind,.d (.val (.string x3.Name)),dq qj0 x3.Zones,oi x3.N,oi x3.R.Num,oi x3.R.Den,oi x3.S.Num,oi x3.S.Den] 58]) (.nz (.mtE [0,1,2] ?_)) fun s x h hr4 Kn4 hKn4=>?_
      ·exact mx
      unfold ww0 at h;obtain⟨k14,rfl⟩:=ez s;cbv;refine qf0 h ?_ ?_<;>intro h
      ·cbv;refine .g h (fun _=>rfl) fun x15 h=>?_;cbv;refine qf0 h ?_ ?_<;>intro h
       ·cbv;obtain rfl:=oj h;obtain rfl:=hr4 _ rfl;obtain rfl:=hr3 _ rfl;obtain rfl:=hr2 _ rfl;obtain rfl:=hr1 _ rfl;exact hK _ _ aw_
       ·cbv;obtain rfl:=oj h;exact hKn4 _ _ _ rfl (.nz (.mtE [0,1,2] mx))
      ·cbv;obtain rfl:=oj h;obtain rfl:=hr4 _ rfl;exact hKn3 _ _ _ rfl (.nz (.mtE [0,1] mx))
    cbv;obtain rfl:=oj h;exact hKn2 _ _ _ rfl (.nz (.mtE [0,1] mx))
   ·cbv;obtain rfl:=oj h;obtain rfl:=hr2 _ rfl;exact hKn1 _ _ _ rfl (.nz (.mtE [] mx))
  cbv;obtain rfl:=oj h;exact hK _ _ aw_
end Go.SX.Td
namespace Go.SX.Td
open Go Go.SX Go.Proofs
set_option maxRecDepth 100000
def iy2 : List GOp:=gS 4 [.mv (cB false)]
def iw2 : List GOp:=gS 5 [.mv (ci 0)]
def iv2 : List GOp:=gS 6 [.mv 5,.mv 0,.len false 7,.bin .lss 6 8]
def ik2 : List GOp:=gS 12 [.mv 0,.mv 5,.idxA 1 12 13,.load 1 false 14,.mv 1,.bin .eql 15 16]
def ix2 : List GOp:=gS 4 [.mv (cB true)]
def ij2 : List GOp:=gS 10 [.mv 5,.bin .add 10 (ci 1)]++gS 5 [.mv 11]
def ig2 : DE:=.seq (.seq (.reg iv2) (.cond 9 (.skip) (.exit 0))) (.seq (.block 1 (.seq (.reg ik2) (.cond 17 (.seq (.reg ix2) (.ret)) (.skip)))) (.reg ij2))
def iz2 : List GOp:=gS 4 [.mv (cB false)]
def c80 : EFn:=⟨18,.seq (.reg iy2) (.join (.seq (.reg iw2) (.block 0 (.loop ig2))) (.seq (.reg iz2) (.ret))),[.tmp 4]⟩
theorem ya2 : zv0 Tryz.prog 80=some c80.er:=by kernel_rfl
set_option maxHeartbeats 4000000 in
theorem sm0 {P:Program}(hP:P=Tryz.prog)(l:(List Int))(n:Int)(r:Bool)(h:kk0 l n=some r):Fn1 P 80 [qk1 l,tt0 n] (vB r):=by
 refine .vz0 (hP▸ya2) fun K hK=>?_;unfold kk0 at h;cbv;refine .ga h (fun (_:Unit)=>rp 18 .top) (fun _=>[]) (fun y hm hr1 Kn1 hKn1=>?_) fun t h=>?_
 ·have h:=hm;clear hm;cbv;refine .g h (fun (i1:Int)=>[dq qq0 l,oi n]++rp 3 .top++[oi i1]++rp 12 .top) (fun i1=>[]) (.nz (.mtE [] ?_)) fun s x h hr2 Kn2 hKn2=>?_
  ·exact mx
  unfold ur0 at h;obtain⟨i1,rfl⟩:=ez s;cbv;refine qf0 h ?_ ?_<;>intro h
  ·cbv;refine .g h (fun _=>rfl) fun x2 h=>?_;cbv;refine qf0 h ?_ ?_<;>intro h
   ·cbv;obtain rfl:=oj h;obtain rfl:=hr2 _ rfl;obtain rfl:=hr1 _ rfl;exact hK _ _ aw_
   ·cbv;obtain rfl:=oj h;exact hKn2 _ _ _ rfl (.nz (.mtE [] mx))
  ·cbv;obtain rfl:=oj h;obtain rfl:=hr2 _ rfl;exact hKn1 _ _ _ rfl (.nz (.mtE [] mx))
 cbv;obtain rfl:=oj h;exact hK _ _ aw_
end Go.SX.Td
namespace Go.SX.Td
open Go Go.SX Go.Proofs
set_option maxRecDepth 100000
def bj2 : List GOp:=gS 2 [.box 58 0,.box 32 1,.mv (cB false)]
def bz2 : List GOp:=gS 5 [.mv (ci 0)]
def bq2 : List GOp:=gS 8 [.mv 5,.fadd 2 2,.load 1 false 9,.len false 10,.bin .lss 8 11]
def nu2 : List GOp:=gS 6 [.mv (cB true)]
def no2 : List GOp:=gS 7 [.mv (ci 0)]
def ni2 : List GOp:=gS 15 [.mv 7,.bin .lss 15 (ci 10)]
def ne2 : List GOp:=gS 19 [.mv 6,.mv 19]++gQ 20 true 21 [.mv 7,.idxP 10 1 3 21,.load 1 false 22,.fadd 2 2,.load 1 false 24,.mv 5,.mv 7,.idxA 20 25 26,.idxP 10 2 28 27,.fadd 0 29,.load 1 false 30,.bin .geq 23 31]++gS 33 [.pick 20 32 (cB false),.mv 33]++gQ 34 true 35 [.mv 7,.idxP 10 1 3 35,.load 1 false 36,.fadd 2 2,.load 1 false 38,.mv 5,.mv 7,.idxA 20 39 40,.idxP 10 2 42 41,.fadd 1 43,.load 1 false 44,.bin .leq 37 45]++gS 47 [.pick 34 46 (cB false)]++gS 6 [.mv 47]
def na2 : List GOp:=gS 17 [.mv 7,.bin .add 17 (ci 1)]++gS 7 [.mv 18]
def bx2 : DE:=.seq (.seq (.reg ni2) (.cond 16 (.skip) (.exit 2))) (.join (.block 3 (.par true true true 27 ne2)) (.reg na2))
def nr2 : List GOp:=gS 48 [.mv 6]
def qg2 : List GOp:=gS 4 [.mv (cB true)]
def qy2 : List GOp:=gS 13 [.mv 5,.bin .add 13 (ci 1)]++gS 5 [.mv 14]
def qp2 : DE:=.seq (.seq (.reg bq2) (.cond 12 (.skip) (.exit 0))) (.join (.block 1 (.seq (.reg nu2) (.join (.seq (.reg no2) (.block 2 (.loop bx2))) (.seq (.reg nr2) (.cond 48 (.seq (.reg qg2) (.ret)) (.skip)))))) (.reg qy2))
def qw2 : List GOp:=gS 4 [.mv (cB false)]
def c103 : EFn:=⟨49,.seq (.reg bj2) (.join (.seq (.reg bz2) (.block 0 (.loop qp2))) (.seq (.reg qw2) (.ret))),[.tmp 4]⟩
theorem qh2 : zv0 Tryz.prog 103=some c103.er:=by kernel_rfl
set_option maxHeartbeats 4000000 in
theorem pd0 {P:Program}(hP:P=Tryz.prog)(r_:Rule)(f:(A10 Int))(r:Bool)(h:ki0 r_ f=some r):Fn1 P 103 [sz1 r_,vn0 f] (vB r):=by
 refine .vz0 (hP▸qh2) fun K hK=>?_;unfold ki0 at h;cbv;refine .ga h (fun (_:Unit)=>rp 49 .top) (fun _=>[]) (fun y hm hr1 Kn1 hKn1=>?_) fun t h=>?_
 ·have h:=hm;clear hm;cbv;refine .g h (fun (i1:Int)=>[.top,.top,.ptr 0 0,.ptr 1 0,.top,oi i1]++rp 43 .top) (fun i1=>[.cells [oi r_.Kind,.d (.val (.string r_.Name)),dq qj0 r_.Zones,oi r_.N,oi r_.R.Num,oi r_.R.Den,oi r_.S.Num,oi r_.S.Den] 58,.cells (ca f) 32]) (.nz (.mtE [0,1] ?_)) fun s x h hr2 Kn2 hKn2=>?_
  ·exact mx
  unfold kf0 at h;obtain⟨i1,rfl⟩:=ez s;cbv;refine qf0 h ?_ ?_<;>intro h
  ·cbv;refine .ga h (fun (_:Unit)=>[.top,.top,.ptr 0 0,.ptr 1 0,.top,oi i1]++rp 43 .top) (fun _=>[.cells [oi r_.Kind,.d (.val (.string r_.Name)),dq qj0 r_.Zones,oi r_.N,oi r_.R.Num,oi r_.R.Den,oi r_.S.Num,oi r_.S.Den] 58,.cells (ca f) 32]) (fun y hm hr3 Kn3 hKn3=>?_) fun t h=>?_
   ·have h:=hm;clear hm;cbv;refine .g h (fun (in2:Bool)=>[.top,.top,.ptr 0 0,.ptr 1 0,.top,oi i1,ob in2]++rp 42 .top) (fun in2=>[.cells [oi r_.Kind,.d (.val (.string r_.Name)),dq qj0 r_.Zones,oi r_.N,oi r_.R.Num,oi r_.R.Den,oi r_.S.Num,oi r_.S.Den] 58,.cells (ca f) 32]) (fun y hm Kn4 hKn4=>?_) fun t h=>?_
    ·have h:=hm;clear hm;cbv;refine .g h (fun ((in3,k4):Bool×Int)=>[.top,.top,.ptr 0 0,.ptr 1 0,.top,oi i1,ob in3,oi k4]++rp 41 .top) (fun (in3,k4)=>[.cells [oi r_.Kind,.d (.val (.string r_.Name)),dq qj0 r_.Zones,oi r_.N,oi r_.R.Num,oi r_.R.Den,oi r_.S.Num,oi r_.S.Den] 58,.cells (ca f) 32]) (.nz (.mtE [0,1] ?_)) fun s x h hr5 Kn5 hKn5=>?_
     ·exact mx
     unfold jv0 at h;obtain⟨in3,k4⟩:=s;cbv;refine qf0 h ?_ ?_<;>intro h
     ·cbv;refine .g h (fun (in5:Bool)=>[.top,.top,.ptr 0 0,.ptr 1 0,.top,oi i1,ob in5,oi k4]++rp 41 .top) (fun in5=>[.cells [oi r_.Kind,.d (.val (.string r_.Name)),dq qj0 r_.Zones,oi r_.N,oi r_.R.Num,oi r_.R.Den,oi r_.S.Num,oi r_.S.Den] 58,.cells (ca f) 32]) (fun y hm Kn6 hKn6=>?_) fun t h=>?_
      ·have h:=hm;clear hm;cbv;refine qf0 h ?_ ?_<;>intro h
       ·cbv
        refine .c10 h ?_ ?_ ?_ ?_ ?_ ?_ ?_ ?_ ?_ ?_<;>(
         intro hni6 h;cbv;refine .g h (fun _=>rfl) fun x7 h=>?_;cbv;refine .at _ hni6 (by decide) ?_;cbv;refine qf0 h ?_ ?_<;>intro h
         ·cbv;refine .at _ hni6 (by decide) ?_;cbv;refine .g h (fun _=>rfl) fun x8 h=>?_;cbv;refine .at _ hni6 (by decide) ?_;cbv;obtain rfl:=oj h;exact hKn6 _ _ _ rfl (.nz (.mtE [0,1] mx))
         ·cbv;obtain rfl:=oj h;exact hKn6 _ _ _ rfl (.nz (.mtE [0,1] mx))
         )
       ·cbv;obtain rfl:=oj h;exact hKn6 _ _ _ rfl (.nz (.mtE [0,1] mx))
      obtain⟨in5,rfl⟩:=ez t;cbv;obtain rfl:=oj h;exact hKn5 _ _ _ rfl (.nz (.mtE [0,1] mx))
     ·cbv;obtain rfl:=oj h;obtain rfl:=hr5 _ rfl;exact hKn4 _ _ _ rfl (.nz (.mtE [0,1] mx))
    obtain⟨in2,rfl⟩:=ez t;cbv;refine qf0 h ?_ ?_<;>intro h
    ·cbv;obtain rfl:=oj h;obtain rfl:=hr3 _ rfl;obtain rfl:=hr2 _ rfl;obtain rfl:=hr1 _ rfl;exact hK _ _ aw_
    ·cbv;obtain rfl:=oj h;exact hKn3 _ _ _ rfl (.nz (.mtE [0,1] mx))
   cbv;obtain rfl:=oj h;exact hKn2 _ _ _ rfl (.nz (.mtE [0,1] mx))
  ·cbv;obtain rfl:=oj h;obtain rfl:=hr2 _ rfl;exact hKn1 _ _ _ rfl (.nz (.mtE [] mx))
 cbv;obtain rfl:=oj h;exact hK _ _ aw_
end Go.SX.Td
namespace Go.SX.Td
open Go Go.SX Go.Proofs
set_option maxRecDepth 100000
def bf2 : List GOp:=gS 3 [.box 24 0,.box 32 1]++gS 6 [.mv (ci 0)]
def bh2 : List GOp:=gS 7 [.mv (ci 0)]
def bp2 : List GOp:=gS 8 [.mv 7,.fadd 0 3,.load 1 false 9,.len false 10,.bin .lss 8 11]
def bg2 : List GOp:=gS 15 [.fadd 0 3,.load 1 false 15,.mv 7,.idxA 8 16 17,.fadd 0 18,.load 1 false 19,.mv 2,.bin .eql 20 21,.mv 22]++gQ 23 true 24 [.fadd 0 3,.load 1 false 24,.mv 7,.idxA 8 25 26,.load 8 true 27,.load 10 true 4,.call 103 [28,29]]++gS 31 [.pick 23 30 (cB false)]
def by2 : List GOp:=gS 32 [.mv 7]++gS 6 [.mv 32]
def bw2 : List GOp:=gS 13 [.mv 7,.bin .add 13 (ci 1)]++gS 7 [.mv 14]
def bm2 : DE:=.seq (.seq (.reg bp2) (.cond 12 (.skip) (.exit 0))) (.seq (.block 1 (.join (.par false false false 15 bg2) (.cond 31 (.seq (.reg by2) (.ret)) (.skip)))) (.reg bw2))
def bv2 : List GOp:=gS 6 [.mv (ci (-1))]
def c102 : EFn:=⟨33,.seq (.reg bf2) (.join (.seq (.reg bh2) (.block 0 (.loop bm2))) (.seq (.reg bv2) (.ret))),[.tmp 6]⟩
theorem qf2 : zv0 Tryz.prog 102=some c102.er:=by kernel_rfl
set_option maxHeartbeats 4000000 in
theorem jl0 {P:Program}(hP:P=Tryz.prog)(p:Policy)(f:(A10 Int))(kind:Int)(r:Int)(h:wk0 p f kind=some r):Fn1 P 102 [ud0 p,vn0 f,tt0 kind] (tt0 r):=by
 refine .vz0 (hP▸qf2) fun K hK=>?_;unfold wk0 at h;cbv;refine .ga h (fun (_:Unit)=>rp 33 .top) (fun _=>[]) (fun y hm hr1 Kn1 hKn1=>?_) fun t h=>?_
 ·have h:=hm;clear hm;cbv;refine .g h (fun (i1:Int)=>[.top,.top,oi kind,.ptr 0 0,.ptr 1 0,.top,.top,oi i1]++rp 25 .top) (fun i1=>[.cells [dq qp0 p.Rules] 24,.cells (ca f) 32]) (.nz (.mtE [0,1] ?_)) fun s x h hr2 Kn2 hKn2=>?_
  ·exact mx
  unfold vw0 at h;obtain⟨i1,rfl⟩:=ez s;cbv;refine qf0 h ?_ ?_<;>intro h
  ·cbv;refine .g h (fun (v2:Bool)=>[.top,.top,oi kind,.ptr 0 0,.ptr 1 0,.top,.top,oi i1]++rp 23 .top++[ob v2,.top]) (fun v2=>[.cells [dq qp0 p.Rules] 24,.cells (ca f) 32]) (fun y hm Kn3 hKn3=>?_) fun t h=>?_
   ·have h:=hm;clear hm;cbv;refine .g h (fun _=>rfl) fun x3 h=>?_;cbv;refine qf0 h ?_ ?_<;>intro h
    ·cbv;refine .g h (fun _=>rfl) fun x4 h=>?_;cbv;refine .g h (fun v hv=>pd0 hP _ _ v hv) aw_ rfl (fun _=>rfl) fun v5 h=>?_;cbv;obtain rfl:=oj h;exact hKn3 _ _ _ rfl (.nz (.mtE [0,1] mx))
    ·cbv;obtain rfl:=oj h;exact hKn3 _ _ _ rfl (.nz (.mtE [0,1] mx))
   obtain⟨v2,rfl⟩:=ez t;cbv;refine qf0 h ?_ ?_<;>intro h
   ·cbv;obtain rfl:=oj h;obtain rfl:=hr2 _ rfl;obtain rfl:=hr1 _ rfl;exact hK _ _ aw_
   ·cbv;obtain rfl:=oj h;exact hKn2 _ _ _ rfl (.nz (.mtE [0,1] mx))
  ·cbv;obtain rfl:=oj h;obtain rfl:=hr2 _ rfl;exact hKn1 _ _ _ rfl (.nz (.mtE [] mx))
 cbv;obtain rfl:=oj h;exact hK _ _ aw_
end Go.SX.Td
namespace Go.SX.Td
open Go Go.SX Go.Proofs
set_option maxRecDepth 100000
def or2 : List GOp:=gS 2 [.box 24 0,.box 32 1,.alloc 44 (.agg #[(.bool false),(.bool false),(.bool false),oz,oz,oz,oz,oz,oz,oz,oz,oz,oz,oz,oz,oz])]
def on2 : List GOp:=gS 14 [.build (.agg #[oz,oz]) [((0,1),(ci 0)),((1,1),(ci 1))]]++gS 5 [.alloc 42 (.agg #[oz,oz])]++[⟨none,.store 2 5 14,none⟩]
def ot2 : List GOp:=gS 15 [.load 1 true 2,.load 10 true 3,.call 102 [15,16,(ci 1)]]++gS 6 [.mv 17]
def ol2 : List GOp:=gS 18 [.load 1 true 2,.load 10 true 3,.call 102 [18,19,(ci 2)]]++gS 7 [.mv 20]
def od2 : List GOp:=gS 21 [.load 1 true 2,.load 10 true 3,.call 102 [21,22,(ci 3)]]++gS 8 [.mv 23]
def oc2 : List GOp:=gS 24 [.load 1 true 2,.load 10 true 3,.call 102 [24,25,(ci 4)]]++gS 9 [.mv 26]
def om2 : List GOp:=gS 27 [.load 1 true 2,.load 10 true 3,.call 102 [27,28,(ci 5)]]++gS 10 [.mv 29]
def of2 : List GOp:=gS 30 [.load 2 true 5,.load 2 true 5,.load 2 true 5,.load 2 true 5,.load 2 true 5,.mv 6,.build (.agg #[(.bool false),(.bool false),(.bool false),oz,oz,oz,oz,oz,oz,oz,oz,oz,oz,oz,oz,oz]) [((5,2),30),((7,2),31),((9,2),32),((11,2),33),((13,2),34),((15,1),35)]]++gS 11 [.alloc 44 (.agg #[(.bool false),(.bool false),(.bool false),oz,oz,oz,oz,oz,oz,oz,oz,oz,oz,oz,oz,oz])]++[⟨none,.store 16 11 36,none⟩]
def oh2 : List GOp:=gS 37 [.mv 6,.bin .geq 37 (ci 0),.mv 38]++gQ 39 true 40 [.mv 8,.bin .geq 40 (ci 0)]++gS 42 [.pick 39 41 (cB false),.mv 42]++gQ 43 true 44 [.mv 7,.bin .lss 44 (ci 0)]++gS 46 [.pick 43 45 (cB false),.fadd 0 11]++[⟨none,.store 1 47 46,none⟩]
def og2 : List GOp:=gS 48 [.load 1 true 2,.load 10 true 3,.call 102 [48,49,(ci 6)],.bin .geq 50 (ci 0),.fadd 1 11]++[⟨none,.store 1 52 51,none⟩]
def js2 : List GOp:=gS 53 [.load 1 true 2,.load 10 true 3,.call 102 [53,54,(ci 7)],.bin .geq 55 (ci 0),.fadd 2 11]++[⟨none,.store 1 57 56,none⟩]
def jt2 : List GOp:=gS 12 [.mv (ci 0)]
def jl2 : List GOp:=gS 58 [.mv 12,.fadd 0 2,.load 1 false 59,.len false 60,.bin .lss 58 61]
def jd2 : List GOp:=gS 65 [.fadd 0 2,.load 1 false 65,.mv 12,.idxA 8 66 67,.load 8 true 68]++gS 13 [.alloc 58 (.agg #[oz,(.string ⟨#[]⟩),(.slice none 0 0),oz,oz,oz,oz,oz])]++[⟨none,.store 8 13 69,none⟩]
def jc2 : List GOp:=gS 70 [.fadd 0 13,.load 1 false 70,.bin .eql 71 (ci 1),.mv 72]++gQ 73 true 74 [.load 8 true 13,.load 10 true 3,.call 103 [74,75]]++gS 77 [.pick 73 76 (cB false),.mv 77]++gQ 78 true 79 [.fadd 3 13,.load 1 false 79,.bin .gtr 80 (ci 0)]++gS 82 [.pick 78 81 (cB false),.mv 82]++gQ 83 true 84 [.fadd 3 11,.load 1 false 84,.bin .eql 85 (ci 0),.mv 86]++gQ 87 false 88 [.fadd 3 13,.load 1 false 88,.fadd 3 11,.load 1 false 90,.bin .lss 89 91]++gQ 83 true 93 [.pick 87 (cB true) 92]++gS 94 [.pick 83 93 (cB false)]
def jm2 : List GOp:=gS 95 [.fadd 3 13,.load 1 false 95,.fadd 3 11]++[⟨none,.store 1 97 96,none⟩]
def jf2 : List GOp:=gS 63 [.mv 12,.bin .add 63 (ci 1)]++gS 12 [.mv 64]
def jn2 : DE:=.seq (.seq (.reg jl2) (.cond 62 (.skip) (.exit 0))) (.join (.block 1 (.seq (.reg jd2) (.join (.reg jc2) (.cond 94 (.reg jm2) (.skip))))) (.reg jf2))
def jh2 : List GOp:=gS 98 [.mv 8,.bin .geq 98 (ci 0)]
def jp2 : List GOp:=gS 100 [.fadd 0 2,.load 1 false 100,.mv 8,.idxA 8 101 102,.fadd 3 103,.load 1 false 104,.fadd 4 11]++[⟨none,.store 1 106 105,none⟩]
def jg2 : List GOp:=gS 107 [.fadd 0 2,.load 1 false 107,.mv 8,.idxA 8 108 109,.fadd 4 110,.load 2 true 111,.fadd 5 11]++[⟨none,.store 2 113 112,none⟩]
def jb2 : List GOp:=gS 114 [.fadd 0 2,.load 1 false 114,.mv 8,.idxA 8 115 116,.fadd 6 117,.load 2 true 118,.fadd 7 11]++[⟨none,.store 2 120 119,none⟩]
def jy2 : List GOp:=gS 121 [.mv 9,.bin .geq 121 (ci 0)]
def jw2 : List GOp:=gS 123 [.fadd 0 2,.load 1 false 123,.mv 9,.idxA 8 124 125,.fadd 4 126,.load 2 true 127,.fadd 9 11]++[⟨none,.store 2 129 128,none⟩]
def jv2 : List GOp:=gS 130 [.fadd 0 2,.load 1 false 130,.mv 9,.idxA 8 131 132,.fadd 6 133,.load 2 true 134,.fadd 11 11]++[⟨none,.store 2 136 135,none⟩]
def jk2 : List GOp:=gS 137 [.mv 10,.bin .geq 137 (ci 0)]
def jx2 : List GOp:=gS 139 [.fadd 0 2,.load 1 false 139,.mv 10,.idxA 8 140 141,.fadd 4 142,.load 2 true 143,.fadd 13 11]++[⟨none,.store 2 145 144,none⟩]
def jj2 : List GOp:=gS 146 [.mv 7,.bin .geq 146 (ci 0)]
def jz2 : List GOp:=gS 148 [.mv 7,.fadd 15 11]++[⟨none,.store 1 149 148,none⟩]
def jq2 : List GOp:=gS 150 [.load 16 true 11]++[⟨none,.store 16 4 150,none⟩]
def c77 : EFn:=⟨151,.seq (.reg or2) (.seq (.reg on2) (.seq (.reg ot2) (.seq (.reg ol2) (.seq (.reg od2) (.seq (.reg oc2) (.seq (.reg om2) (.seq (.reg of2) (.join (.reg oh2) (.seq (.reg og2) (.seq (.reg js2) (.join (.seq (.reg jt2) (.block 0 (.loop jn2))) (.join (.seq (.reg jh2) (.cond 99 (.seq (.reg jp2) (.seq (.reg jg2) (.reg jb2))) (.skip))) (.join (.seq (.reg jy2) (.cond 122 (.seq (.reg jw2) (.reg jv2)) (.skip))) (.join (.seq (.reg jk2) (.cond 138 (.reg jx2) (.skip))) (.join (.seq (.reg jj2) (.cond 147 (.reg jz2) (.skip))) (.seq (.reg jq2) (.ret))))))))))))))))),[.cell 4 16 true]⟩
theorem jr2 : zv0 Tryz.prog 77=some c77.er:=by kernel_rfl
set_option maxHeartbeats 4000000 in
theorem to0 {P:Program}(hP:P=Tryz.prog)(p:Policy)(f:(A10 Int))(r:Decision)(h:kx0 p f=some r):Fn1 P 77 [ud0 p,vn0 f] (pv0 r):=by
 refine .vz0 (hP▸jr2) fun K hK=>?_;unfold kx0 at h;cbv;refine .g h (fun v hv=>jl0 hP _ _ _ v hv) aw_ rfl (fun _=>rfl) fun allow1 h=>?_;cbv;refine .g h (fun v hv=>jl0 hP _ _ _ v hv) aw_ rfl (fun _=>rfl) fun deny2 h=>?_;cbv;refine .g h (fun v hv=>jl0 hP _ _ _ v hv) aw_ rfl (fun _=>rfl) fun price3 h=>?_;cbv;refine .g h (fun v hv=>jl0 hP _ _ _ v hv) aw_ rfl (fun _=>rfl) fun resale4 h=>?_;cbv;refine .g h (fun v hv=>jl0 hP _ _ _ v hv) aw_ rfl (fun _=>rfl) fun refund5 h=>?_;cbv;refine .g h (fun (Allowed6:Bool)=>[.top,.top,.ptr 0 0,.ptr 1 0,.ptr 2 0,.top,.top,oi deny2,oi price3,oi resale4,oi refund5,.ptr 3 0]++rp 139 .top) (fun Allowed6=>[.cells [dq qp0 p.Rules] 24,.cells (ca f) 32,.cells dz 44,.cells [ob Allowed6,ob false,ob false,oi 0,oi 0,oi 0,oi 1,oi 0,oi 1,oi 0,oi 1,oi 0,oi 1,oi 0,oi 1,oi allow1] 44]) (fun y hm Kn1 hKn1=>?_) fun t h=>?_
 ·have h:=hm;clear hm;cbv;refine qf0 h ?_ ?_<;>intro h
  ·cbv;refine qf0 h ?_ ?_<;>intro h
   ·cbv;obtain rfl:=oj h;exact hKn1 _ _ _ rfl (.nz (.mtE [0,1,2,4] mx))
   ·cbv;obtain rfl:=oj h;exact hKn1 _ _ _ rfl (.nz (.mtE [0,1,2,4] mx))
  ·cbv;obtain rfl:=oj h;exact hKn1 _ _ _ rfl (.nz (.mtE [0,1,2,4] mx))
 obtain⟨Allowed6,rfl⟩:=ez t;cbv;refine .g h (fun v hv=>jl0 hP _ _ _ v hv) aw_ rfl (fun _=>rfl) fun v7 h=>?_;cbv;refine .g h (fun v hv=>jl0 hP _ _ _ v hv) aw_ rfl (fun _=>rfl) fun v8 h=>?_;cbv;refine .g h (fun (Limit9:Int)=>[.top,.top,.ptr 0 0,.top,.ptr 1 0,.top,.top,oi deny2,oi price3,oi resale4,oi refund5,.ptr 2 0]++rp 139 .top) (fun Limit9=>[.cells [dq qp0 p.Rules] 24,.cells dz 44,.cells [ob Allowed6,ob (io.le 0 v7),ob (io.le 0 v8),oi Limit9,oi 0,oi 0,oi 1,oi 0,oi 1,oi 0,oi 1,oi 0,oi 1,oi 0,oi 1,oi allow1] 44]) (fun y hm Kn1 hKn1=>?_) fun t h=>?_
 ·have h:=hm;clear hm;cbv;refine .g h (fun ((Limit10,i11):Int×Int)=>[.top,.top,.ptr 0 0,.ptr 1 0,.ptr 2 0,.top,.top,oi deny2,oi price3,oi resale4,oi refund5,.ptr 3 0,oi i11]++rp 138 .top) (fun (Limit10,i11)=>[.cells [dq qp0 p.Rules] 24,.cells (ca f) 32,.cells dz 44,.cells [ob Allowed6,ob (io.le 0 v7),ob (io.le 0 v8),oi Limit10,oi 0,oi 0,oi 1,oi 0,oi 1,oi 0,oi 1,oi 0,oi 1,oi 0,oi 1,oi allow1] 44]) (.nz (.mtE [0,1,2,3] ?_)) fun s x h hr2 Kn2 hKn2=>?_
  ·exact mx
  unfold jw0 at h;obtain⟨Limit10,i11⟩:=s;cbv;refine qf0 h ?_ ?_<;>intro h
  ·cbv;refine .g h (fun (Limit12:Int)=>[.top,.top,.ptr 0 0,.ptr 1 0,.ptr 2 0,.top,.top,oi deny2,oi price3,oi resale4,oi refund5,.ptr 3 0,oi i11]++rp 138 .top) (fun Limit12=>[.cells [dq qp0 p.Rules] 24,.cells (ca f) 32,.cells dz 44,.cells [ob Allowed6,ob (io.le 0 v7),ob (io.le 0 v8),oi Limit12,oi 0,oi 0,oi 1,oi 0,oi 1,oi 0,oi 1,oi 0,oi 1,oi 0,oi 1,oi allow1] 44]) (fun y hm Kn3 hKn3=>?_) fun t h=>?_
   ·have h:=hm;clear hm;cbv;refine .g h (fun _=>rfl) fun x13 h=>?_;cbv;refine .g h (fun (v14:Bool)=>[.top,.top,.ptr 0 0,.ptr 1 0,.ptr 2 0,.top,.top,oi deny2,oi price3,oi resale4,oi refund5,.ptr 3 0,oi i11,.ptr 4 0]++rp 80 .top++[ob v14]++rp 56 .top) (fun v14=>[.cells [dq qp0 p.Rules] 24,.cells (ca f) 32,.cells dz 44,.cells [ob Allowed6,ob (io.le 0 v7),ob (io.le 0 v8),oi Limit10,oi 0,oi 0,oi 1,oi 0,oi 1,oi 0,oi 1,oi 0,oi 1,oi 0,oi 1,oi allow1] 44,.cells [oi x13.Kind,.d (.val (.string x13.Name)),dq qj0 x13.Zones,oi x13.N,oi x13.R.Num,oi x13.R.Den,oi x13.S.Num,oi x13.S.Den] 58]) (fun y hm Kn4 hKn4=>?_) fun t h=>?_
    ·have h:=hm;clear hm;cbv;refine qf0 h ?_ ?_<;>intro h
     ·cbv;refine .g h (fun v hv=>pd0 hP _ _ v hv) aw_ rfl (fun _=>rfl) fun v15 h=>?_;cbv;refine qf0 h ?_ ?_<;>intro h
      ·cbv;refine qf0 h ?_ ?_<;>intro h
       ·cbv;refine qf0 h ?_ ?_<;>intro h
        ·cbv;obtain rfl:=oj h;exact hKn4 _ _ _ rfl (.nz (.mtE [0,1,2,3,4] mx))
        ·cbv;obtain rfl:=oj h;exact hKn4 _ _ _ rfl (.nz (.mtE [0,1,2,3,4] mx))
       ·cbv;obtain rfl:=oj h;exact hKn4 _ _ _ rfl (.nz (.mtE [0,1,2,3,4] mx))
      ·cbv;obtain rfl:=oj h;exact hKn4 _ _ _ rfl (.nz (.mtE [0,1,2,3,4] mx))
     ·cbv;obtain rfl:=oj h;exact hKn4 _ _ _ rfl (.nz (.mtE [0,1,2,3,4] mx))
    obtain⟨v14,rfl⟩:=ez t;cbv;refine qf0 h ?_ ?_<;>intro h
    ·cbv;obtain rfl:=oj h;exact hKn3 _ _ _ rfl (.nz (.mtE [0,1,2,3] mx))
    ·cbv;obtain rfl:=oj h;exact hKn3 _ _ _ rfl (.nz (.mtE [0,1,2,3] mx))
   obtain⟨Limit12,rfl⟩:=ez t;cbv;obtain rfl:=oj h;exact hKn2 _ _ _ rfl (.nz (.mtE [0,1,2,3] mx))
  ·cbv;obtain rfl:=oj h;obtain rfl:=hr2 _ rfl;exact hKn1 _ _ _ rfl (.nz (.mtE [0,2,3] mx))
 obtain⟨Limit9,rfl⟩:=ez t;cbv;refine .g h (fun ((Price16,Num17,Den18,Num19,Den20):Int×Int×Int×Int×Int)=>[.top,.top,.ptr 0 0,.top,.ptr 1 0,.top,.top,oi deny2,.top,oi resale4,oi refund5,.ptr 2 0]++rp 139 .top) (fun (Price16,Num17,Den18,Num19,Den20)=>[.cells [dq qp0 p.Rules] 24,.cells dz 44,.cells [ob Allowed6,ob (io.le 0 v7),ob (io.le 0 v8),oi Limit9,oi Price16,oi Num17,oi Den18,oi Num19,oi Den20,oi 0,oi 1,oi 0,oi 1,oi 0,oi 1,oi allow1] 44]) (fun y hm Kn1 hKn1=>?_) fun t h=>?_
 ·have h:=hm;clear hm;cbv;refine qf0 h ?_ ?_<;>intro h
  ·cbv;refine .g h (fun _=>rfl) fun x21 h=>?_;cbv;refine .g h (fun _=>rfl) fun x22 h=>?_;cbv;refine .g h (fun _=>rfl) fun x23 h=>?_;cbv;obtain rfl:=oj h;exact hKn1 _ _ _ rfl (.nz (.mtE [0,1,2] mx))
  ·cbv;obtain rfl:=oj h;exact hKn1 _ _ _ rfl (.nz (.mtE [0,1,2] mx))
 obtain⟨Price16,Num17,Den18,Num19,Den20⟩:=t;cbv;refine .g h (fun ((Num24,Den25,Num26,Den27):Int×Int×Int×Int)=>[.top,.top,.ptr 0 0,.top,.ptr 1 0,.top,.top,oi deny2,.top,.top,oi refund5,.ptr 2 0]++rp 139 .top) (fun (Num24,Den25,Num26,Den27)=>[.cells [dq qp0 p.Rules] 24,.cells dz 44,.cells [ob Allowed6,ob (io.le 0 v7),ob (io.le 0 v8),oi Limit9,oi Price16,oi Num17,oi Den18,oi Num19,oi Den20,oi Num24,oi Den25,oi Num26,oi Den27,oi 0,oi 1,oi allow1] 44]) (fun y hm Kn1 hKn1=>?_) fun t h=>?_
 ·have h:=hm;clear hm;cbv;refine qf0 h ?_ ?_<;>intro h
  ·cbv;refine .g h (fun _=>rfl) fun x28 h=>?_;cbv;refine .g h (fun _=>rfl) fun x29 h=>?_;cbv;obtain rfl:=oj h;exact hKn1 _ _ _ rfl (.nz (.mtE [0,1,2] mx))
  ·cbv;obtain rfl:=oj h;exact hKn1 _ _ _ rfl (.nz (.mtE [0,1,2] mx))
 obtain⟨Num24,Den25,Num26,Den27⟩:=t;cbv;refine .g h (fun ((Num30,Den31):Int×Int)=>rp 4 .top++[.ptr 0 0,.top,.top,oi deny2]++rp 3 .top++[.ptr 1 0]++rp 139 .top) (fun (Num30,Den31)=>[.cells dz 44,.cells [ob Allowed6,ob (io.le 0 v7),ob (io.le 0 v8),oi Limit9,oi Price16,oi Num17,oi Den18,oi Num19,oi Den20,oi Num24,oi Den25,oi Num26,oi Den27,oi Num30,oi Den31,oi allow1] 44]) (fun y hm Kn1 hKn1=>?_) fun t h=>?_
 ·have h:=hm;clear hm;cbv;refine qf0 h ?_ ?_<;>intro h
  ·cbv;refine .g h (fun _=>rfl) fun x32 h=>?_;cbv;obtain rfl:=oj h;exact hKn1 _ _ _ rfl (.nz (.mtE [1,2] mx))
  ·cbv;obtain rfl:=oj h;exact hKn1 _ _ _ rfl (.nz (.mtE [1,2] mx))
 obtain⟨Num30,Den31⟩:=t;cbv;refine .g h (fun (By33:Int)=>rp 4 .top++[.ptr 0 0]++rp 6 .top++[.ptr 1 0]++rp 139 .top) (fun By33=>[.cells dz 44,.cells [ob Allowed6,ob (io.le 0 v7),ob (io.le 0 v8),oi Limit9,oi Price16,oi Num17,oi Den18,oi Num19,oi Den20,oi Num24,oi Den25,oi Num26,oi Den27,oi Num30,oi Den31,oi By33] 44]) (fun y hm Kn1 hKn1=>?_) fun t h=>?_
 ·have h:=hm;clear hm;cbv;refine qf0 h ?_ ?_<;>intro h
  ·cbv;obtain rfl:=oj h;exact hKn1 _ _ _ rfl (.nz (.mtE [0,1] mx))
  ·cbv;obtain rfl:=oj h;exact hKn1 _ _ _ rfl (.nz (.mtE [0,1] mx))
 obtain⟨By33,rfl⟩:=ez t;cbv;obtain rfl:=oj h;exact hK _ _ aw_
end Go.SX.Td
namespace Go.SX.Td
open Go Go.SX Go.Proofs
set_option maxRecDepth 100000
def ns2 : List GOp:=gS 5 [.box 52 2,.mv cn]
def nt2 : List GOp:=gS 9 [.mv 1,.fadd 0 5,.load 1 false 10,.bin .leq 9 11,.mv 12]++gQ 13 false 14 [.mv 1,.fadd 1 5,.load 1 false 15,.bin .gtr 14 16]++gS 18 [.pick 13 (cB true) 17,.mv 18]++gQ 19 false 20 [.mv 0,.mv 1,.call 80 [20,21]]++gS 23 [.pick 19 (cB true) 22]
def nl2 : List GOp:=gS 24 [.mv 0]++gS 6 [.mv 24]
def nd2 : List GOp:=gS 7 [.mv (ci 0)]
def nc2 : List GOp:=gS 25 [.mv 7,.mv 0,.len false 26,.bin .lss 25 27,.mv 28]++gQ 29 true 30 [.mv 0,.mv 7,.idxA 1 30 31,.load 1 false 32,.mv 1,.bin .lss 33 34]++gS 36 [.pick 29 35 (cB false)]
def nm2 : List GOp:=gS 37 [.mv 7,.bin .add 37 (ci 1)]++gS 7 [.mv 38]
def nn2 : DE:=.seq (.join (.reg nc2) (.cond 36 (.skip) (.exit 0))) (.block 1 (.reg nm2))
def nf2 : List GOp:=gS 39 [.bslice 3 1 0 oz [],.mv 0,.mv 7,.slc 1 40 none (some 41),.app 3 1 8 oz 39 42]++gS 8 [.mv 43]
def nh2 : List GOp:=gS 44 [.mv 8,.mv 1,.bslice 3 1 1 oz [(0,45)],.app 3 1 8 oz 44 46]++gS 8 [.mv 47]
def np2 : List GOp:=gS 48 [.mv 8,.mv 0,.mv 7,.slc 1 49 (some 50) none,.app 3 1 8 oz 48 51]++gS 6 [.mv 52]
def c104 : EFn:=⟨53,.seq (.reg ns2) (.seq (.join (.reg nt2) (.cond 23 (.seq (.reg nl2) (.ret)) (.skip))) (.seq (.reg nd2) (.join (.block 0 (.loop nn2)) (.seq (.reg nf2) (.seq (.reg nh2) (.seq (.reg np2) (.ret))))))),[.tmp 6]⟩
theorem qv2 : zv0 Tryz.prog 104=some c104.er:=by kernel_rfl
set_option maxHeartbeats 4000000 in
theorem bl0 {P:Program}(hP:P=Tryz.prog)(l:(List Int))(n:Int)(limit:Range)(r:(List Int))(h:xh0 l n limit=some r):Fn1 P 104 [qk1 l,tt0 n,cg1 limit] (qk1 r):=by
 refine .vz0 (hP▸qv2) fun K hK=>?_;unfold xh0 at h;cbv;refine .g h (fun (v1:Bool)=>[dq qq0 l,oi n]++rp 21 .top++[ob v1]++rp 29 .top) (fun v1=>[]) (fun y hm Kn1 hKn1=>?_) fun t h=>?_
 ·have h:=hm;clear hm;cbv;refine qf0 h ?_ ?_<;>intro h
  ·cbv;obtain rfl:=oj h;exact hKn1 _ _ _ rfl (.nz (.mtE [] mx))
  ·cbv;refine qf0 h ?_ ?_<;>intro h
   ·cbv;obtain rfl:=oj h;exact hKn1 _ _ _ rfl (.nz (.mtE [] mx))
   ·cbv;refine .g h (fun v hv=>sm0 hP _ _ v hv) aw_ rfl (fun _=>rfl) fun v2 h=>?_;cbv;obtain rfl:=oj h;exact hKn1 _ _ _ rfl (.nz (.mtE [] mx))
 obtain⟨v1,rfl⟩:=ez t;cbv;refine qf0 h ?_ ?_<;>intro h
 ·cbv;obtain rfl:=oj h;exact hK _ _ aw_
 ·cbv;refine .g h (fun (at3:Int)=>[dq qq0 l,oi n]++rp 5 .top++[oi at3]++rp 45 .top) (fun at3=>[]) (fun y hm Kn1 hKn1=>?_) fun t h=>?_
  ·have h:=hm;clear hm;cbv;refine .g h (fun (at4:Int)=>[dq qq0 l,oi n]++rp 5 .top++[oi at4]++rp 45 .top) (fun at4=>[]) (.nz (.mtE [] ?_)) fun s x h hr2 Kn2 hKn2=>?_
   ·exact mx
   unfold vd0 at h;obtain⟨at4,rfl⟩:=ez s;cbv;refine .g h (fun (v5:Bool)=>[dq qq0 l,oi n]++rp 5 .top++[oi at4]++rp 28 .top++[ob v5]++rp 16 .top) (fun v5=>[]) (fun y hm Kn3 hKn3=>?_) fun t h=>?_
   ·have h:=hm;clear hm;cbv;refine qf0 h ?_ ?_<;>intro h
    ·cbv;refine .g h (fun _=>rfl) fun x6 h=>?_;cbv;obtain rfl:=oj h;exact hKn3 _ _ _ rfl (.nz (.mtE [] mx))
    ·cbv;obtain rfl:=oj h;exact hKn3 _ _ _ rfl (.nz (.mtE [] mx))
   obtain⟨v5,rfl⟩:=ez t;cbv;refine qf0 h ?_ ?_<;>intro h
   ·cbv;obtain rfl:=oj h;exact hKn2 _ _ _ rfl (.nz (.mtE [] mx))
   ·cbv;obtain rfl:=oj h;obtain rfl:=hr2 _ rfl;exact hKn1 _ _ _ rfl (.nz (.mtE [] mx))
  obtain⟨at3,rfl⟩:=ez t;cbv;refine .g (e:=qq0) h (zw0 _) fun l7 h=>?_;cbv;refine .g h (fun _=>rfl) fun l8 h=>?_;cbv;refine .g h rfl (fun _=>rfl) (by decide) fun out9 h=>?_;cbv;refine .g (e:=qq0) h (qd0 aw_ (zw0 _)) fun l10 h=>?_;cbv;refine .g h rfl (fun _=>rfl) (by decide) fun out11 h=>?_;cbv;refine .g h (fun _=>rfl) fun l12 h=>?_;cbv;refine .g h rfl (fun _=>rfl) (by decide) fun l13 h=>?_;cbv;obtain rfl:=oj h;exact hK _ _ aw_
end Go.SX.Td
namespace Go.SX.Td
open Go Go.SX Go.Proofs
set_option maxRecDepth 100000
end Go.SX.Td
namespace Go.SX.Td
open Go Go.SX Go.Proofs
set_option maxRecDepth 100000
def oy2 : List GOp:=gS 6 [.mv cn]
def ow2 : List GOp:=gS 11 [.call 20 [],.mv 1,.idxV 10 2 true 11 12]++gS 7 [.alloc 52 (.agg #[oz,oz])]++[⟨none,.store 2 7 13,none⟩]
def ov2 : List GOp:=gS 8 [.mv cn]
def ox2 : List GOp:=gS 9 [.mv (ci 0)]
def oj2 : List GOp:=gS 14 [.mv 9,.mv 2,.len false 15,.bin .lss 14 16]
def oz2 : List GOp:=gS 20 [.mv 0,.nilck 20,.fadd 1 21,.load 1 false 22,.mv 2,.mv 9,.idxA 1 24 25,.load 1 false 26,.mv 1,.idxA 20 23 27,.idxP 10 2 29 28,.load 2 true 30]++gS 10 [.alloc 52 (.agg #[oz,oz])]++[⟨none,.store 2 10 31,none⟩]
def oq2 : List GOp:=gS 32 [.mv 8,.fadd 0 10,.load 1 false 33,.load 2 true 7,.call 104 [32,34,35]]++gS 8 [.mv 36]
def iu2 : List GOp:=gS 37 [.mv 8,.fadd 1 10,.load 1 false 38,.bin .add 39 (ci 1),.load 2 true 7,.call 104 [37,40,41]]++gS 8 [.mv 42]
def io2 : List GOp:=gS 18 [.mv 9,.bin .add 18 (ci 1)]++gS 9 [.mv 19]
def ob2 : DE:=.seq (.seq (.reg oj2) (.cond 17 (.skip) (.exit 0))) (.seq (.block 1 (.join (.par true true true 13 oz2) (.seq (.reg oq2) (.reg iu2)))) (.reg io2))
def yo2 : List GOp:=gS 43 [.mv 8]++gS 6 [.mv 43]
def c78 : EFn:=⟨44,.seq (.reg oy2) (.join (.reg ow2) (.seq (.reg ov2) (.join (.seq (.reg ox2) (.block 0 (.loop ob2))) (.seq (.reg yo2) (.ret))))),[.tmp 6]⟩
theorem yu2 : zv0 Tryz.prog 78=some c78.er:=by kernel_rfl
end Go.SX.Td
namespace Go.SX.Td
open Go Go.SX Go.Proofs
set_option maxRecDepth 100000
set_option maxHeartbeats 8000000 in
theorem eu1 {P:Program}(hP:P=Tryz.prog)(rules:(List Rule))(zones:(List (A10 Range)))(at0:Int)(lv:(List Int))(nodes:(List Node))(leaves:(List Decision))(attr:(List Int))(live:(List (List Int)))(made:(List Int))(full:Bool)(r:(List Int))(h:na0 rules zones at0 lv nodes leaves attr live made full=some r):qe0 P 78 [.cells [dq qp0 rules,dq qj0 zones,.hd 1,.hd 2,.hd 3,.hd 4,.hd 5,ob full] 90,rB nodes,rC leaves,rA attr,rD live,rA made] [.ptr 0 0,oi at0,dq qq0 lv] (fun sv own'=>sv=dq qq0 r∧own'=[.cells [dq qp0 rules,dq qj0 zones,.hd 1,.hd 2,.hd 3,.hd 4,.hd 5,ob full] 90,rB nodes,rC leaves,rA attr,rD live,rA made]):=by
 refine .walkT [0,1,2,3,4,5] 6 rfl rfl (by decide) (by decide) (hP▸yu2) fun K hK=>?_;unfold na0 at h;cbv;refine .g h (fun ((Lo1,Hi2):Int×Int)=>[.ptr 0 0,oi at0,dq qq0 lv]++rp 4 .top++[.ptr 6 0]++rp 36 .top) (fun (Lo1,Hi2)=>[.cells [dq qp0 rules,dq qj0 zones,.hd 1,.hd 2,.hd 3,.hd 4,.hd 5,ob full] 90,rB nodes,rC leaves,rA attr,rD live,rA made,.cells [oi Lo1,oi Hi2] 52]) (fun y hm Kn1 hKn1=>?_) fun t h=>?_
 ·have h:=hm;clear hm;cbv;refine .g h (fun v hv=>xo0 hP v hv) aw_ rfl (fun _=>rfl) fun v3 h=>?_;cbv
  refine .c10 h ?_ ?_ ?_ ?_ ?_ ?_ ?_ ?_ ?_ ?_<;>(
   intro hni4 h;cbv;obtain rfl:=oj h;exact hKn1 _ _ _ rfl (.nz (.mtE [0,1,2,3,4,5,6] mx))
   )
 obtain⟨Lo1,Hi2⟩:=t;cbv;refine .g h (fun (out5:(List Int))=>rp 8 .top++[dq qq0 out5]++rp 35 .top) (fun out5=>[.cells [dq qp0 rules,dq qj0 zones,.hd 1,.hd 2,.hd 3,.hd 4,.hd 5,ob full] 90,rB nodes,rC leaves,rA attr,rD live,rA made]) (fun y hm Kn1 hKn1=>?_) fun t h=>?_
 ·have h:=hm;clear hm;cbv;refine .g h (fun ((out6,i7):(List Int)×Int)=>[.ptr 0 0,oi at0,dq qq0 lv]++rp 4 .top++[.ptr 6 0,dq qq0 out6,oi i7]++rp 34 .top) (fun (out6,i7)=>[.cells [dq qp0 rules,dq qj0 zones,.hd 1,.hd 2,.hd 3,.hd 4,.hd 5,ob full] 90,rB nodes,rC leaves,rA attr,rD live,rA made,.cells [oi Lo1,oi Hi2] 52]) (.nz (.mtE [0,1,2,3,4,5,6] ?_)) fun s x h hr2 Kn2 hKn2=>?_
  ·exact mx
  unfold pq0 at h;obtain⟨out6,i7⟩:=s;cbv;refine qf0 h ?_ ?_<;>intro h
  ·cbv;refine .g h (fun ((ix8,Lo9,Hi10):Int×Int×Int)=>[.ptr 0 0,oi at0,dq qq0 lv]++rp 4 .top++[.ptr 6 0,dq qq0 out6,oi ix8,.ptr 7 0]++rp 33 .top) (fun (ix8,Lo9,Hi10)=>[.cells [dq qp0 rules,dq qj0 zones,.hd 1,.hd 2,.hd 3,.hd 4,.hd 5,ob full] 90,rB nodes,rC leaves,rA attr,rD live,rA made,.cells [oi Lo1,oi Hi2] 52,.cells [oi Lo9,oi Hi10] 52]) (fun y hm Kn3 hKn3=>?_) fun t h=>?_
   ·have h:=hm;clear hm;cbv;refine .g h (fun _=>rfl) fun x11 h=>?_;cbv;refine .g h (fun _=>rfl) fun x12 h=>?_;cbv
    refine .c10 h ?_ ?_ ?_ ?_ ?_ ?_ ?_ ?_ ?_ ?_<;>(
     intro hni13 h;cbv;obtain rfl:=oj h;exact hKn3 _ _ _ rfl (.nz (.mtE [0,1,2,3,4,5,6,7] mx))
     )
   obtain⟨ix8,Lo9,Hi10⟩:=t;cbv;refine .g h (fun v hv=>bl0 hP _ _ _ v hv) aw_ rfl (fun _=>rfl) fun out14 h=>?_;cbv;refine .g h (fun v hv=>bl0 hP _ _ _ v hv) aw_ rfl (fun _=>rfl) fun out15 h=>?_;cbv;obtain rfl:=oj h;exact hKn2 _ _ _ rfl (.nz (.mtE [0,1,2,3,4,5,6] mx))
  ·cbv;obtain rfl:=oj h;obtain rfl:=hr2 _ rfl;exact hKn1 _ _ _ rfl (.nz (.mtE [0,1,2,3,4,5] mx))
 obtain⟨out5,rfl⟩:=ez t;cbv;obtain rfl:=oj h;exact hK _ _ mx
end Go.SX.Td
