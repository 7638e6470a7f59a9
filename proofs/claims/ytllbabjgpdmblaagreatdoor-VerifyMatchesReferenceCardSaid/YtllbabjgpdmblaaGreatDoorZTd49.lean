/- Parts of the proof. -/
import Derived.Test.YtllbabjgpdmblaaGreatDoorZTdT
import Derived.Test.YtllbabjgpdmblaaGreatDoorZTd32d
set_option linter.unusedSimpArgs false
set_option linter.unusedVariables false
set_option linter.unusedSectionVars false
namespace Go.SX.Td
open Go Go.SX Go.Proofs
set_option maxRecDepth 100000
def zw3 : List ah:=gS 2 [.box 54 0,.mv (cB false)]
def zv3 : List ah:=gS 6 [.load 10 true 1,.mv (ci 0)]
def zk3 : List ah:=gS 8 [.bin .lss 7 (ci 10)]
def zx3 : List ah:=gS 9 [.mv 7,.lD 10 1 false 6 7]++gS 4 [.mv 9,.mv 10]
def zj3 : List ah:=gS 11 [.mv 5,.mv 4,.eH 10 2 2 12,.aj 0 13,.load 1 false 14,.bin .lss 11 15,.mv 16]++gQ 17 false 18 [.mv 5,.mv 4,.eH 10 2 2 19,.aj 1 20,.load 1 false 21,.bin .gtr 18 22]++gS 24 [.pick 17 (cB true) 23]
def zz3 : List ah:=gS 3 [.mv (cB false)]
def zq3 : List ah:=gS 25 [.bin .add 7 (ci 1)]++gS 7 [.mv 25]
def zy3 : DE:=.seq (.reg zk3) (.seq (.cond 8 (.skip) (.exit 0)) (.seq (.block 1 (.join (.reg zx3) (.join (.reg zj3) (.cond 24 (.seq (.reg zz3) (.ret)) (.skip))))) (.reg zq3)))
def qu3 : List ah:=gS 3 [.mv (cB true)]
def c88 : fJ:=⟨26,.seq (.reg zw3) (.join (.seq (.reg zv3) (.block 0 (.loop zy3))) (.seq (.reg qu3) (.ret))),[.tmp 3]⟩
theorem fk2 : fD Tryz.prog 88=some c88.er:=by kernel_rfl
def kv3 : List ah:=gS 2 [.box 58 0,.box 32 1,.mv (cB false)]
def kk3 : List ah:=gS 5 [.aj 2 2,.load 1 false 5,.jE (.func 88) [] [3],.call 48 [6,7]]++gS 4 [.mv 8]
def c68 : fJ:=⟨9,.seq (.reg kv3) (.seq (.reg kk3) (.ret)),[.tmp 4]⟩
theorem dt2 : fD Tryz.prog 68=some c68.er:=by kernel_rfl
set_option maxHeartbeats 4000000 in
theorem KH {P:Program}(hP:P=Tryz.prog)(r_:Rule)(f:(aF Int))(r:Bool)(h:D8 r_ f=some r):Fn1 P 68 [XH r_,H9 f] (vB r):=by
 refine .mJ (hP▸dt2) fun K hK=>?_;unfold D8 at h;cbv;refine .inl (hP▸yr2) ?_;cbv;refine .inl (hP▸yt2) ?_;cbv;refine .ga h (fun (_:Unit)=>rp 19 .top) (fun _=>[.cells [oi r_.Kind,.d (.val (.string r_.Name)),dq dD r_.ay,oi r_.N,oi r_.R.Num,oi r_.R.Den,oi r_.S.Num,oi r_.S.Den] 58,.cells (ca f) 32]) (fun y hm hr1 Kn1 aC=>?_) fun t h=>?_
 ·have h:=hm;clear hm;cbv;refine .g h (fun (v1:Int)=>[dq dD r_.ay,.clo (.func 88) [] [.ptr 1 0]]++rp 5 .top++[oi (io.len (W dD r_.ay)),oi v1]++rp 10 .top) (fun v1=>[.cells [oi r_.Kind,.d (.val (.string r_.Name)),dq dD r_.ay,oi r_.N,oi r_.R.Num,oi r_.R.Den,oi r_.S.Num,oi r_.S.Den] 58,.cells (ca f) 32]) (.nz (.aB [0,1] ?_)) fun s x h hr2 Kn2 bg=>?_
  ·exact mx
  unfold SY at h;obtain⟨v1,rfl⟩:=ez s;cbv;refine aG h ?_ ?_<;>intro h
  ·cbv;refine .g h (fun (v2:Bool)=>[dq dD r_.ay,.clo (.func 88) [] [.ptr 1 0]]++rp 3 .top++[oi v1,.top,oi (io.len (W dD r_.ay)),oi v1]++rp 7 .top++[ob v2,.top,.top]) (fun v2=>[.cells [oi r_.Kind,.d (.val (.string r_.Name)),dq dD r_.ay,oi r_.N,oi r_.R.Num,oi r_.R.Den,oi r_.S.Num,oi r_.S.Den] 58,.cells (ca f) 32]) (fun y hm Kn3 aP=>?_) fun t h=>?_
   ·have h:=hm;clear hm;cbv;refine .g h (fun _=>rfl) fun x3 h=>?_;cbv;refine .inl (hP▸fk2) ?_;cbv;refine .ga h (fun (_:Unit)=>rp 26 .top) (fun _=>[.cells [oi r_.Kind,.d (.val (.string r_.Name)),dq dD r_.ay,oi r_.N,oi r_.R.Num,oi r_.R.Den,oi r_.S.Num,oi r_.S.Den] 58,.cells (ca f) 32]) (fun y hm hr4 ku aY=>?_) fun t h=>?_
    ·have h:=hm;clear hm;cbv;refine .g h (fun (v4:Int)=>[.top,.top,.ptr 2 0]++rp 3 .top++[.agg (ca f),oi v4]++rp 18 .top) (fun v4=>[.cells [oi r_.Kind,.d (.val (.string r_.Name)),dq dD r_.ay,oi r_.N,oi r_.R.Num,oi r_.R.Den,oi r_.S.Num,oi r_.S.Den] 58,.cells (ca f) 32,.cells (cR x3) 54]) (.nz (.aB [0,1,2] ?_)) fun s x h wo Hr jH=>?_
     ·exact mx
     unfold Og at h;obtain⟨v4,rfl⟩:=ez s;cbv;refine aG h ?_ ?_<;>intro h
     ·cbv;refine .g h (fun (n5:Int)=>[.top,.top,.ptr 2 0,.top,oi v4,oi n5,.agg (ca f),oi v4]++rp 18 .top) (fun n5=>[.cells [oi r_.Kind,.d (.val (.string r_.Name)),dq dD r_.ay,oi r_.N,oi r_.R.Num,oi r_.R.Den,oi r_.S.Num,oi r_.S.Den] 58,.cells (ca f) 32,.cells (cR x3) 54]) (fun y hm N9 jY=>?_) fun t h=>?_
      ·have h:=hm;clear hm;cbv
       refine .c10 h ?_ ?_ ?_ ?_ ?_ ?_ ?_ ?_ ?_ ?_<;>(
        intro Iw h;cbv;obtain rfl:=oj h;exact jY _ _ _ rfl (.nz (.aB [0,1,2] mx))
        )
      obtain⟨n5,rfl⟩:=ez t;cbv;refine .g h (fun (v7:Bool)=>[.top,.top,.ptr 2 0]++rp 3 .top++[.agg (ca f),oi v4]++rp 16 .top++[ob v7,.top]) (fun v7=>[.cells [oi r_.Kind,.d (.val (.string r_.Name)),dq dD r_.ay,oi r_.N,oi r_.R.Num,oi r_.R.Den,oi r_.S.Num,oi r_.S.Den] 58,.cells (ca f) 32,.cells (cR x3) 54]) (fun y hm N9 jY=>?_) fun t h=>?_
      ·have h:=hm;clear hm;cbv
       refine .c10 h ?_ ?_ ?_ ?_ ?_ ?_ ?_ ?_ ?_ ?_<;>(
        intro J5 h;cbv;refine aG h ?_ ?_<;>intro h
        ·cbv;obtain rfl:=oj h;exact jY _ _ _ rfl (.nz (.aB [0,1,2] mx))
        ·cbv;refine .at _ J5 (by decide) ?_;cbv;obtain rfl:=oj h;exact jY _ _ _ rfl (.nz (.aB [0,1,2] mx))
        )
      obtain⟨v7,rfl⟩:=ez t;cbv;refine aG h ?_ ?_<;>intro h
      ·cbv;obtain rfl:=oj h;obtain rfl:=wo _ rfl;obtain rfl:=hr4 _ rfl;exact aP _ _ _ rfl (.nz (.aB [0,1] mx))
      ·cbv;obtain rfl:=oj h;exact jH _ _ _ rfl (.nz (.aB [0,1,2] mx))
     ·cbv;obtain rfl:=oj h;obtain rfl:=wo _ rfl;exact aY _ _ _ rfl (.nz (.aB [0,1] mx))
    cbv;obtain rfl:=oj h;exact aP _ _ _ rfl (.nz (.aB [0,1] mx))
   obtain⟨v2,rfl⟩:=ez t;cbv;refine aG h ?_ ?_<;>intro h
   ·cbv;obtain rfl:=oj h;obtain rfl:=hr2 _ rfl;obtain rfl:=hr1 _ rfl;exact hK _ _ aJ
   ·cbv;obtain rfl:=oj h;exact bg _ _ _ rfl (.nz (.aB [0,1] mx))
  ·cbv;obtain rfl:=oj h;obtain rfl:=hr2 _ rfl;exact aC _ _ _ rfl (.nz (.aB [0,1] mx))
 cbv;obtain rfl:=oj h;exact hK _ _ aJ
noncomputable def iz1 (v9:Node)(rec:(Int->(List (Int×Bool))->(List Int)->(List (Int×Int))->Option ((List (Int×Bool))×(List Int)×(List (Int×Int))))):((List (Int×Bool))×(List Int)×(List (Int×Int))×Int)->Option (((List (Int×Bool))×(List Int)×(List (Int×Int))×Int) ⊕ ((List (Int×Bool))×(List Int)×(List (Int×Int))))
 |(Jz,c11,iM,v13) =>
  bif (io.lt v13 (io.len (W aH v9.Kids))) then (
   Option.bind (
    Option.bind (bU v9.Kids v13) fun x17 =>
    Option.bind (rec x17 Jz c11 iM) fun ZY =>
    some (ZY.1,ZY.2.1,ZY.2.2)
    ) fun (RN,c15,RJ) =>
   some (.inl (RN,c15,RJ,(io.ar .add .i64 v13 1)))
  ) else (
   some (.inr (Jz,c11,iM))
  )
noncomputable def jx2 (nodes:(List Node))(rec:(Int->(List (Int×Bool))->(List Int)->(List (Int×Int))->Option ((List (Int×Bool))×(List Int)×(List (Int×Int)))))(at0:Int)(seen:(List (Int×Bool)))(ord:(List Int))(number:(List (Int×Int))):Option ((List (Int×Bool))×(List Int)×(List (Int×Int))) :=
 Option.bind (some (nI seen at0 false)) fun y1 =>
 bif y1 then (
  some (seen,ord,number)
 ) else (
  Option.bind (some (sW seen at0 true)) fun m2 =>
  Option.bind (
   Option.bind (some (sW number at0 (io.len (W aH ord)))) fun m5 =>
   Option.bind (some [at0]) fun l6 =>
   Option.bind (appG ord l6) fun l7 =>
   some (l7,m5)
   ) fun (c3,own4) =>
  Option.bind (oL nodes at0) fun Dh =>
  Option.bind (nodes[Dh]?) fun v9 =>
  dw (iz1 v9 rec) (m2,c3,own4,0)
 )
noncomputable def walkT (nodes:(List Node)):Nat->Int->(List (Int×Bool))->(List Int)->(List (Int×Int))->Option ((List (Int×Bool))×(List Int)×(List (Int×Int)))
 |0,_,_,_,_=>none
 |n+1,at0,seen,ord,number=>jx2 nodes (walkT nodes n) at0 seen ord number
def lq3 : List ah:=gS 0 [.alloc 44 (.agg #[(.bool false),(.bool false),(.bool false),oz,oz,oz,oz,oz,oz,oz,oz,oz,oz,oz,oz,oz])]
def pu3 : List ah:=gS 2 [.build (.agg #[oz,oz]) [((1,1),(ci 1))]]++gS 1 [.alloc 42 (.agg #[oz,oz])]++[⟨none,.store 2 1 2,none⟩]
def po3 : List ah:=gS 3 [.load 2 true 1,.load 2 true 1,.load 2 true 1,.load 2 true 1,.load 2 true 1,.build (.agg #[(.bool false),(.bool false),(.bool false),oz,oz,oz,oz,oz,oz,oz,oz,oz,oz,oz,oz,oz]) [((5,2),3),((7,2),4),((9,2),5),((11,2),6),((13,2),7),((15,1),(ci (-1)))]]++[⟨none,.store 16 0 8,none⟩]
def c19 : fJ:=⟨9,.seq (.reg lq3) (.seq (.reg pu3) (.seq (.reg po3) (.ret))),[.cell 0 16 true]⟩
theorem bh2 : fD Tryz.prog 19=some c19.er:=by kernel_rfl
set_option maxHeartbeats 4000000 in
theorem nl0 {P:Program}(hP:P=Tryz.prog)(r:Decision)(h:QV=some r):Fn1 P 19 [] (ZR r):=by
 refine .mJ (hP▸bh2) fun K hK=>?_;unfold QV at h;cbv;obtain rfl:=oj h;exact hK _ _ aJ
def pe3 : List ah:=gS 0 [.alloc 54 (.agg #[oz,oz,oz,oz,oz,oz,oz,oz,oz,oz,oz,oz,oz,oz,oz,oz,oz,oz,oz,oz])]
def pr3 : List ah:=gS 1 [.alloc 54 (.agg #[oz,oz,oz,oz,oz,oz,oz,oz,oz,oz,oz,oz,oz,oz,oz,oz,oz,oz,oz,oz])]
def pn3 : List ah:=gS 4 [.aU 3 1 10 oz [(0,(ci 1000000000)),(1,(ci 150)),(2,(ci 1)),(3,(ci 19)),(4,(ci 7)),(5,(ci 319)),(6,(ci 3)),(7,(ci 3)),(8,(ci 12)),(9,(ci 100))]]++gS 2 [.mv 4]
def ps3 : List ah:=gS 3 [.mv (ci 0)]
def pt3 : List ah:=gS 5 [.mv 3,.mv 2,.len false 6,.bin .lss 5 7]
def pl3 : List ah:=gS 11 [.mv 3,.mv 2,.mv 3,.aQ 1 12 13,.load 1 false 14,.eH 10 2 1 11,.aj 1 16]++[⟨none,.store 1 17 15,none⟩]
def pd3 : List ah:=gS 9 [.mv 3,.bin .add 9 (ci 1)]++gS 3 [.mv 10]
def pi3 : DE:=.seq (.seq (.reg pt3) (.cond 8 (.skip) (.exit 0))) (.join (.block 1 (.reg pl3)) (.reg pd3))
def pc3 : List ah:=gS 18 [.eH 10 2 1 (ci 8),.aj 0 18]++[⟨none,.store 1 19 (ci 1),none⟩]
def pm3 : List ah:=gS 20 [.load 20 true 1]++[⟨none,.store 20 0 20,none⟩]
def c20 : fJ:=⟨21,.seq (.reg pe3) (.seq (.reg pr3) (.seq (.reg pn3) (.join (.seq (.reg ps3) (.block 0 (.loop pi3))) (.seq (.reg pc3) (.seq (.reg pm3) (.ret)))))),[.cell 0 20 true]⟩
theorem bp2 : fD Tryz.prog 20=some c20.er:=by kernel_rfl
set_option maxHeartbeats 4000000 in
theorem Jb {P:Program}(hP:P=Tryz.prog)(r:(aF Range))(h:Bo=some r):Fn1 P 20 [] (ZL r):=by
 refine .mJ (hP▸bp2) fun K hK=>?_;unfold Bo at h;cbv;refine .g (e:=aH) h (gU aJ (gU aJ (gU aJ (gU aJ (gU aJ (gU aJ (gU aJ (gU aJ (gU aJ (gU aJ (jP _))))))))))) fun sG h=>?_;cbv;refine .g h (fun (z2:(aF Range))=>[.ptr 0 0,.ptr 1 0]++rp 19 .top) (fun z2=>[.cells [oi 0,oi 0,oi 0,oi 0,oi 0,oi 0,oi 0,oi 0,oi 0,oi 0,oi 0,oi 0,oi 0,oi 0,oi 0,oi 0,oi 0,oi 0,oi 0,oi 0] 54,.cells (cR z2) 54]) (fun y hm Kn1 aC=>?_) fun t h=>?_
 ·have h:=hm;clear hm;cbv;refine .g h (fun ((z3,i4):(aF Range)×Int)=>[.ptr 0 0,.ptr 1 0,.hd 2,oi i4]++rp 17 .top) (fun (z3,i4)=>[.cells [oi 0,oi 0,oi 0,oi 0,oi 0,oi 0,oi 0,oi 0,oi 0,oi 0,oi 0,oi 0,oi 0,oi 0,oi 0,oi 0,oi 0,oi 0,oi 0,oi 0] 54,.cells (cR z3) 54,rC sG]) (.nz (.aB [0,1,2] ?_)) fun s x h hr2 Kn2 bg=>?_
  ·exact mx
  unfold P8 at h;obtain⟨z3,i4⟩:=s;cbv;refine aG h ?_ ?_<;>intro h
  ·cbv;refine .g h (fun (z5:(aF Range))=>[.ptr 0 0,.ptr 1 0,.hd 2,oi i4]++rp 17 .top) (fun z5=>[.cells [oi 0,oi 0,oi 0,oi 0,oi 0,oi 0,oi 0,oi 0,oi 0,oi 0,oi 0,oi 0,oi 0,oi 0,oi 0,oi 0,oi 0,oi 0,oi 0,oi 0] 54,.cells (cR z5) 54,rC sG]) (fun y hm Kn3 aP=>?_) fun t h=>?_
   ·have h:=hm;clear hm;cbv;refine .g h fun i6 h=>?_;cbv;refine .g h fun v7 h=>?_;cbv
    refine .c10 h ?_ ?_ ?_ ?_ ?_ ?_ ?_ ?_ ?_ ?_<;>(
     intro J5 h;cbv;obtain rfl:=oj h;exact aP _ _ _ rfl (.nz (.aB [0,1,2] mx))
     )
   obtain⟨z5,rfl⟩:=ez t;cbv;obtain rfl:=oj h;exact bg _ _ _ rfl (.nz (.aB [0,1,2] mx))
  ·cbv;obtain rfl:=oj h;obtain rfl:=hr2 _ rfl;exact aC _ _ _ rfl (.nz (.aB [0,1] mx))
 obtain⟨z2,rfl⟩:=ez t;cbv;refine .lit 8 rfl (by decide) ?_;cbv;obtain rfl:=oj h;exact hK _ _ aJ
def pp3 : List ah:=gS 0 [.alloc 32 (.agg #[oz,oz,oz,oz,oz,oz,oz,oz,oz,oz])]
def pg3 : List ah:=gS 1 [.alloc 32 (.agg #[oz,oz,oz,oz,oz,oz,oz,oz,oz,oz])]
def pb3 : List ah:=gS 4 [.call 20 []]++gS 2 [.alloc 54 (.agg #[oz,oz,oz,oz,oz,oz,oz,oz,oz,oz,oz,oz,oz,oz,oz,oz,oz,oz,oz,oz])]++[⟨none,.store 20 2 4,none⟩]
def py3 : List ah:=gS 3 [.mv (ci 0)]
def pw3 : List ah:=gS 5 [.mv 3,.bin .lss 5 (ci 10)]
def pv3 : List ah:=gS 9 [.mv 3,.mv 3,.eH 10 2 2 10,.aj 0 11,.load 1 false 12,.eH 10 1 1 9]++[⟨none,.store 1 14 13,none⟩]
def pk3 : List ah:=gS 7 [.mv 3,.bin .add 7 (ci 1)]++gS 3 [.mv 8]
def ph3 : DE:=.seq (.seq (.reg pw3) (.cond 6 (.skip) (.exit 0))) (.join (.block 1 (.reg pv3)) (.reg pk3))
def px3 : List ah:=gS 15 [.load 10 true 1]++[⟨none,.store 10 0 15,none⟩]
def c21 : fJ:=⟨16,.seq (.reg pp3) (.seq (.reg pg3) (.seq (.reg pb3) (.join (.seq (.reg py3) (.block 0 (.loop ph3))) (.seq (.reg px3) (.ret))))),[.cell 0 10 true]⟩
theorem bg2 : fD Tryz.prog 21=some c21.er:=by kernel_rfl
set_option maxHeartbeats 4000000 in
theorem lk0 {P:Program}(hP:P=Tryz.prog)(r:(aF Int))(h:QJ=some r):Fn1 P 21 [] (H9 r):=by
 refine .mJ (hP▸bg2) fun K hK=>?_;unfold QJ at h;cbv;refine .g h (fun v hv=>Jb hP v hv) aJ rfl (fun _=>rfl) fun v1 h=>?_;cbv;refine .g h (fun (f2:(aF Int))=>[.ptr 0 0,.ptr 1 0]++rp 14 .top) (fun f2=>[.cells [oi 0,oi 0,oi 0,oi 0,oi 0,oi 0,oi 0,oi 0,oi 0,oi 0] 32,.cells (ca f2) 32]) (fun y hm Kn1 aC=>?_) fun t h=>?_
 ·have h:=hm;clear hm;cbv;refine .g h (fun ((f3,i4):(aF Int)×Int)=>[.ptr 0 0,.ptr 1 0,.ptr 2 0,oi i4]++rp 12 .top) (fun (f3,i4)=>[.cells [oi 0,oi 0,oi 0,oi 0,oi 0,oi 0,oi 0,oi 0,oi 0,oi 0] 32,.cells (ca f3) 32,.cells (cR v1) 54]) (.nz (.aB [0,1,2] ?_)) fun s x h hr2 Kn2 bg=>?_
  ·exact mx
  unfold PI at h;obtain⟨f3,i4⟩:=s;cbv;refine aG h ?_ ?_<;>intro h
  ·cbv;refine .g h (fun ((f5,i6):(aF Int)×Int)=>[.ptr 0 0,.ptr 1 0,.ptr 2 0,oi i6]++rp 12 .top) (fun (f5,i6)=>[.cells [oi 0,oi 0,oi 0,oi 0,oi 0,oi 0,oi 0,oi 0,oi 0,oi 0] 32,.cells (ca f5) 32,.cells (cR v1) 54]) (fun y hm Kn3 aP=>?_) fun t h=>?_
   ·have h:=hm;clear hm;cbv
    refine .c10 h ?_ ?_ ?_ ?_ ?_ ?_ ?_ ?_ ?_ ?_<;>(
     intro ML h;cbv;refine .at _ ML (by decide) ?_;cbv;obtain rfl:=oj h;exact aP _ _ _ rfl (.nz (.aB [0,1,2] mx))
     )
   obtain⟨f5,i6⟩:=t;cbv;obtain rfl:=oj h;exact bg _ _ _ rfl (.nz (.aB [0,1,2] mx))
  ·cbv;obtain rfl:=oj h;obtain rfl:=hr2 _ rfl;exact aC _ _ _ rfl (.nz (.aB [0,1] mx))
 obtain⟨f2,rfl⟩:=ez t;cbv;obtain rfl:=oj h;exact hK _ _ aJ
noncomputable def QK (p:au):(Int×Int)->Option ((Int×Int) ⊕ ((Int) ⊕ (Bool)))
 |(pY,i3) =>
 bif (io.lt i3 (io.len (W aZ p.Rules))) then (
 Option.bind (bU p.Rules i3) fun x4 =>
 Option.bind (bU p.Rules i3) fun x5 =>
 bif (io.lt 60 (io.Rh x5.Name)) then (
 some (.inr (.inr false))
 ) else (
 some (.inl ((io.ar .add .i64 pY (io.len (W dD x4.ay))),(io.ar .add .i64 i3 1)))
 )
 ) else (
 some (.inr (.inl pY))
 )
noncomputable def QS (p:au):Option (Bool) :=
 gu (
 dw (QK p) (0,0)
 ) fun tY =>
 bif (io.le (io.len (W aZ p.Rules)) 8) then (
 some (io.le tY 10)
 ) else (
 some false
 )
noncomputable def QI (t_:Table):Int->Option ((Int) ⊕ ((Unit) ⊕ (Bool)))
 |i1 =>
 bif (io.lt i1 (io.len (W bC t_.Nodes))) then (
 Option.bind (
 Option.bind (bU t_.Nodes i1) fun x3 =>
 bif (io.lt 20 (io.len (W aH x3.aI))) then (
 some true
 ) else (
 Option.bind (bU t_.Nodes i1) fun x4 =>
 some (io.lt 21 (io.len (W aH x4.Kids)))
 )
 ) fun v2 =>
 bif v2 then (
 some (.inr (.inr false))
 ) else (
 some (.inl (io.ar .add .i64 i1 1))
 )
 ) else (
 some (.inr (.inl ()))
 )
noncomputable def QH (t_:Table):Option (Bool) :=
 gu (
 dw (QI t_) 0
 ) fun _ =>
 bif (io.le (io.len (W bC t_.Nodes)) 60) then (
 some (io.le (io.len (W bJ t_.Leaves)) 60)
 ) else (
 some false
 )
noncomputable def Ot (p:au)(t_:Table):Option (Bool) :=
 Option.bind (QS p) fun v1 =>
 bif v1 then (
 Option.bind (QH t_) fun v2 =>
 some v2
 ) else (
 some false
 )
def nz3 : List ah:=gS 1 [.box 24 0,.mv (cB false)]
def nq3 : List ah:=gS 3 [.mv (ci 0)]
def mu3 : List ah:=gS 4 [.mv (ci 0)]
def mo3 : List ah:=gS 5 [.mv 4,.aj 0 1,.load 1 false 6,.len false 7,.bin .lss 5 8]
def mi3 : List ah:=gS 12 [.mv 3,.aj 0 1,.load 1 false 13,.mv 4,.aQ 8 14 15,.aj 2 16,.load 1 false 17,.len false 18,.bin .add 12 19]++gS 3 [.mv 20]
def me3 : List ah:=gS 21 [.aj 0 1,.load 1 false 21,.mv 4,.aQ 8 22 23,.aj 1 24,.load 1 false 25,.len true 26,.bin .gtr 27 (ci 60)]
def ma3 : List ah:=gS 2 [.mv (cB false)]
def mr3 : List ah:=gS 10 [.mv 4,.bin .add 10 (ci 1)]++gS 4 [.mv 11]
def nj3 : DE:=.seq (.seq (.reg mo3) (.cond 9 (.skip) (.exit 0))) (.seq (.block 1 (.seq (.reg mi3) (.seq (.reg me3) (.cond 28 (.seq (.reg ma3) (.ret)) (.skip))))) (.reg mr3))
def mn3 : List ah:=gS 29 [.aj 0 1,.load 1 false 29,.len false 30,.bin .leq 31 (ci 8),.mv 32]++gQ 33 true 34 [.mv 3,.bin .leq 34 (ci 10)]++gS 36 [.pick 33 35 (cB false)]++gS 2 [.mv 36]
def c10 : fJ:=⟨37,.seq (.reg nz3) (.seq (.reg nq3) (.join (.seq (.reg mu3) (.block 0 (.loop nj3))) (.seq (.reg mn3) (.ret)))),[.tmp 2]⟩
theorem eq2 : fD Tryz.prog 10=some c10.er:=by kernel_rfl
set_option maxHeartbeats 4000000 in
theorem vo1 {P:Program}(hP:P=Tryz.prog)(p:au)(r:Bool)(h:QS p=some r):Fn1 P 10 [BA p] (vB r):=by
 refine .mJ (hP▸eq2) fun K hK=>?_;unfold QS at h;cbv;refine .ga h (fun (tY:Int)=>[.top,.ptr 0 0,.top,oi tY]++rp 33 .top) (fun tY=>[.cells [dq aZ p.Rules] 24]) (fun y hm hr1 Kn1 aC=>?_) fun t h=>?_
 ·have h:=hm;clear hm;cbv;refine .g h (fun ((pY,i3):Int×Int)=>[.top,.ptr 0 0,.top,oi pY,oi i3]++rp 32 .top) (fun (pY,i3)=>[.cells [dq aZ p.Rules] 24]) (.nz (.aB [0] ?_)) fun s x h hr2 Kn2 bg=>?_
  ·exact mx
  unfold QK at h;obtain⟨pY,i3⟩:=s;cbv;refine aG h ?_ ?_<;>intro h
  ·cbv;refine .g h (fun _=>rfl) fun x4 h=>?_;cbv;refine .g h (fun _=>rfl) fun x5 h=>?_;cbv;refine aG h ?_ ?_<;>intro h
   ·cbv;obtain rfl:=oj h;obtain rfl:=hr2 _ rfl;obtain rfl:=hr1 _ rfl;exact hK _ _ aJ
   ·cbv;obtain rfl:=oj h;exact bg _ _ _ rfl (.nz (.aB [0] mx))
  ·cbv;obtain rfl:=oj h;obtain rfl:=hr2 _ rfl;exact aC _ _ _ rfl (.nz (.aB [0] mx))
 obtain⟨tY,rfl⟩:=ez t;cbv;refine aG h ?_ ?_<;>intro h
 ·cbv;obtain rfl:=oj h;exact hK _ _ aJ
 ·cbv;obtain rfl:=oj h;exact hK _ _ aJ
def mt3 : List ah:=gS 1 [.box 28 0,.mv (cB false)]
def ml3 : List ah:=gS 3 [.mv (ci 0)]
def md3 : List ah:=gS 4 [.mv 3,.aj 0 1,.load 1 false 5,.len false 6,.bin .lss 4 7]
def mc3 : List ah:=gS 11 [.aj 0 1,.load 1 false 11,.mv 3,.aQ 4 12 13,.aj 1 14,.load 1 false 15,.len false 16,.bin .gtr 17 (ci 20),.mv 18]++gQ 19 false 20 [.aj 0 1,.load 1 false 20,.mv 3,.aQ 4 21 22,.aj 2 23,.load 1 false 24,.len false 25,.bin .gtr 26 (ci 21)]++gS 28 [.pick 19 (cB true) 27]
def mm3 : List ah:=gS 2 [.mv (cB false)]
def mf3 : List ah:=gS 9 [.mv 3,.bin .add 9 (ci 1)]++gS 3 [.mv 10]
def ms3 : DE:=.seq (.seq (.reg md3) (.cond 8 (.skip) (.exit 0))) (.seq (.block 1 (.join (.reg mc3) (.cond 28 (.seq (.reg mm3) (.ret)) (.skip)))) (.reg mf3))
def mh3 : List ah:=gS 29 [.aj 0 1,.load 1 false 29,.len false 30,.bin .leq 31 (ci 60),.mv 32]++gQ 33 true 34 [.aj 1 1,.load 1 false 34,.len false 35,.bin .leq 36 (ci 60)]++gS 38 [.pick 33 37 (cB false)]++gS 2 [.mv 38]
def c11 : fJ:=⟨39,.seq (.reg mt3) (.join (.seq (.reg ml3) (.block 0 (.loop ms3))) (.seq (.reg mh3) (.ret))),[.tmp 2]⟩
theorem cu2 : fD Tryz.prog 11=some c11.er:=by kernel_rfl
set_option maxHeartbeats 4000000 in
theorem qm1 {P:Program}(hP:P=Tryz.prog)(t_:Table)(r:Bool)(h:QH t_=some r):Fn1 P 11 [BR t_] (vB r):=by
 refine .mJ (hP▸cu2) fun K hK=>?_;unfold QH at h;cbv;refine .ga h (fun (_:Unit)=>[.top,.ptr 0 0]++rp 37 .top) (fun _=>[.cells [dq bC t_.Nodes,dq bJ t_.Leaves] 28]) (fun y hm hr1 Kn1 aC=>?_) fun t h=>?_
 ·have h:=hm;clear hm;cbv;refine .g h (fun (i1:Int)=>[.top,.ptr 0 0,.top,oi i1]++rp 35 .top) (fun i1=>[.cells [dq bC t_.Nodes,dq bJ t_.Leaves] 28]) (.nz (.aB [0] ?_)) fun s x h hr2 Kn2 bg=>?_
  ·exact mx
  unfold QI at h;obtain⟨i1,rfl⟩:=ez s;cbv;refine aG h ?_ ?_<;>intro h
  ·cbv;refine .g h (fun (v2:Bool)=>[.top,.ptr 0 0,.top,oi i1]++rp 24 .top++[ob v2]++rp 10 .top) (fun v2=>[.cells [dq bC t_.Nodes,dq bJ t_.Leaves] 28]) (fun y hm Kn3 aP=>?_) fun t h=>?_
   ·have h:=hm;clear hm;cbv;refine .g h (fun _=>rfl) fun x3 h=>?_;cbv;refine aG h ?_ ?_<;>intro h
    ·cbv;obtain rfl:=oj h;exact aP _ _ _ rfl (.nz (.aB [0] mx))
    ·cbv;refine .g h (fun _=>rfl) fun x4 h=>?_;cbv;obtain rfl:=oj h;exact aP _ _ _ rfl (.nz (.aB [0] mx))
   obtain⟨v2,rfl⟩:=ez t;cbv;refine aG h ?_ ?_<;>intro h
   ·cbv;obtain rfl:=oj h;obtain rfl:=hr2 _ rfl;obtain rfl:=hr1 _ rfl;exact hK _ _ aJ
   ·cbv;obtain rfl:=oj h;exact bg _ _ _ rfl (.nz (.aB [0] mx))
  ·cbv;obtain rfl:=oj h;obtain rfl:=hr2 _ rfl;exact aC _ _ _ rfl (.nz (.aB [0] mx))
 cbv;refine aG h ?_ ?_<;>intro h
 ·cbv;obtain rfl:=oj h;exact hK _ _ aJ
 ·cbv;obtain rfl:=oj h;exact hK _ _ aJ
def c6r0 : List ah:=gS 2 [.box 24 0,.box 28 1,.mv (cB false)]
def c6r1 : List ah:=gS 5 [.load 1 true 2,.call 10 [5],.mv 6]++gQ 7 true 8 [.load 2 true 3,.call 11 [8]]++gS 10 [.pick 7 9 (cB false)]++gS 4 [.mv 10]
def c6 : fJ:=⟨11,.seq (.reg c6r0) (.seq (.reg c6r1) (.ret)),[.tmp 4]⟩
theorem kx3 : fD Tryz.prog 6=some c6.er:=by kernel_rfl
set_option maxHeartbeats 4000000 in
theorem xb1 {P:Program}(hP:P=Tryz.prog)(p:au)(t_:Table)(r:Bool)(h:Ot p t_=some r):Fn1 P 6 [BA p,BR t_] (vB r):=by
 refine .mJ (hP▸kx3) fun K hK=>?_;unfold Ot at h;cbv;refine .g h (fun v hv=>vo1 hP _ v hv) aJ rfl (fun _=>rfl) fun v1 h=>?_;cbv;refine aG h ?_ ?_<;>intro h
 ·cbv;refine .g h (fun v hv=>qm1 hP _ v hv) aJ rfl (fun _=>rfl) fun v2 h=>?_;cbv;obtain rfl:=oj h;exact hK _ _ aJ
 ·cbv;obtain rfl:=oj h;exact hK _ _ aJ
noncomputable def QG (a:(List Int))(b:(List Int)):Int->Option ((Int) ⊕ ((Unit) ⊕ (Bool)))
 |i1 =>
 bif (io.lt i1 (io.len (W aH a))) then (
 Option.bind (bU a i1) fun x2 =>
 Option.bind (bU b i1) fun x3 =>
 bif (io.not (io.eq x2 x3)) then (
 some (.inr (.inr false))
 ) else (
 some (.inl (io.ar .add .i64 i1 1))
 )
 ) else (
 some (.inr (.inl ()))
 )
noncomputable def JV (a:(List Int))(b:(List Int)):Option (Bool) :=
 bif (io.not (io.eq (io.len (W aH a)) (io.len (W aH b)))) then (
 some false
 ) else (
 gu (
 dw (QG a b) 0
 ) fun _ =>
 some true
 )
noncomputable def L9 (a:Node)(b:Node):Option (Bool) :=
 bif (io.eq a.Attr b.Attr) then (
 bif (io.eq a.Leaf b.Leaf) then (
 Option.bind (JV a.aI b.aI) fun v1 =>
 bif v1 then (
 Option.bind (JV a.Kids b.Kids) fun v2 =>
 some v2
 ) else (
 some false
 )
 ) else (
 some false
 )
 ) else (
 some false
 )
noncomputable def QN (l:(List Int))(n:Int):Int->Option ((Int) ⊕ ((Unit) ⊕ (Bool)))
 |i1 =>
 bif (io.lt i1 (io.len (W aH l))) then (
 Option.bind (bU l i1) fun x2 =>
 bif (io.eq x2 n) then (
 some (.inr (.inr true))
 ) else (
 some (.inl (io.ar .add .i64 i1 1))
 )
 ) else (
 some (.inr (.inl ()))
 )
noncomputable def Gx (l:(List Int))(n:Int):Option (Bool) :=
 gu (
 dw (QN l n) 0
 ) fun _ =>
 some false
noncomputable def OW (nodes:(List Node))(at0:Int)(rec:(Int->(List Int)->Option ((List Int)))):((List Int)×Int)->Option (((List Int)×Int) ⊕ ((List Int)))
 |(qo,i6) =>
 Option.bind (bU nodes at0) fun x7 =>
 bif (io.lt i6 (io.len (W aH x7.Kids))) then (
 Option.bind (
 Option.bind (bU nodes at0) fun x9 =>
 Option.bind (bU x9.Kids i6) fun x10 =>
 Option.bind (rec x10 qo) fun r11 =>
 some r11
 ) fun um =>
 some (.inl (um,(io.ar .add .i64 i6 1)))
 ) else (
 some (.inr qo)
 )
noncomputable def RF (nodes:(List Node))(leaves:(List Decision))(rec:(Int->(List Int)->Option ((List Int))))(at0:Int)(order:(List Int)):Option ((List Int)) :=
 Option.bind (Gx order at0) fun v1 =>
 bif v1 then (
 some order
 ) else (
 Option.bind (some [at0]) fun l2 =>
 Option.bind (appG order l2) fun Eo =>
 Option.bind (
 dw (OW nodes at0 rec) (Eo,0)
 ) fun uo =>
 some uo
 )
noncomputable def Ia (nodes:(List Node))(leaves:(List Decision)):Nat->Int->(List Int)->Option ((List Int))
 |0,_,_=>none
 |n+1,at0,order=>RF nodes leaves (Ia nodes leaves n) at0 order
noncomputable def P7 (r_:Rule)(i1:Int)(f:(aF Int)):(Bool×Int)->Option ((Bool×Int) ⊕ (Bool))
 |(Qe,k4) =>
 bif (io.lt k4 10) then (
 Option.bind (
 bif Qe then (
 Option.bind (oh 10 k4) fun i6 =>
 Option.bind (bU r_.ay i1) fun x7 =>
 bif (io.le (x7.get i6).Lo (f.get i6)) then (
 Option.bind (bU r_.ay i1) fun x8 =>
 some (io.le (f.get i6) (x8.get i6).Hi)
 ) else (
 some false
 )
 ) else (
 some false
 )
 ) fun TS =>
 some (.inl (TS,(io.ar .add .i64 k4 1)))
 ) else (
 some (.inr Qe)
 )
noncomputable def Ti (r_:Rule)(f:(aF Int)):Int->Option ((Int) ⊕ ((Unit) ⊕ (Bool)))
 |i1 =>
 bif (io.lt i1 (io.len (W dD r_.ay))) then (
 gu (
 Option.bind (
 dw (P7 r_ i1 f) (true,0)
 ) fun in2 =>
 bif in2 then (
 some (.inr (.inr (.inr true)))
 ) else (
 some (.inl ())
 )
 ) fun _ =>
 some (.inl (io.ar .add .i64 i1 1))
 ) else (
 some (.inr (.inl ()))
 )
noncomputable def OD (r_:Rule)(f:(aF Int)):Option (Bool) :=
 gu (
 dw (Ti r_ f) 0
 ) fun _ =>
 some false
noncomputable def QF (p:au)(kind:Int)(f:(aF Int)):Int->Option ((Int) ⊕ ((Unit) ⊕ (Int)))
 |i1 =>
 bif (io.lt i1 (io.len (W aZ p.Rules))) then (
 Option.bind (
 Option.bind (bU p.Rules i1) fun x3 =>
 bif (io.eq x3.Kind kind) then (
 Option.bind (bU p.Rules i1) fun x4 =>
 Option.bind (OD x4 f) fun v5 =>
 some v5
 ) else (
 some false
 )
 ) fun v2 =>
 bif v2 then (
 some (.inr (.inr i1))
 ) else (
 some (.inl (io.ar .add .i64 i1 1))
 )
 ) else (
 some (.inr (.inl ()))
 )
noncomputable def Eb (p:au)(f:(aF Int))(kind:Int):Option (Int) :=
 gu (
 dw (QF p kind f) 0
 ) fun _ =>
 some (-1)
noncomputable def PW (p:au)(f:(aF Int)):(Int×Int)->Option ((Int×Int) ⊕ (Int))
 |(jw,i11) =>
 bif (io.lt i11 (io.len (W aZ p.Rules))) then (
 Option.bind (
 Option.bind (bU p.Rules i11) fun mF =>
 Option.bind (
 bif (io.eq mF.Kind 1) then (
 Option.bind (OD mF f) fun v15 =>
 bif v15 then (
 bif (io.lt 0 mF.N) then (
 bif (io.eq jw 0) then (
 some true
 ) else (
 some (io.lt mF.N jw)
 )
 ) else (
 some false
 )
 ) else (
 some false
 )
 ) else (
 some false
 )
 ) fun v14 =>
 bif v14 then (
 some mF.N
 ) else (
 some jw
 )
 ) fun pq =>
 some (.inl (pq,(io.ar .add .i64 i11 1)))
 ) else (
 some (.inr jw)
 )
noncomputable def PE (p:au)(f:(aF Int)):Option (Decision) :=
 Option.bind (Eb p f 1) fun jK =>
 Option.bind (Eb p f 2) fun kV =>
 Option.bind (Eb p f 3) fun jC =>
 Option.bind (Eb p f 4) fun iZ =>
 Option.bind (Eb p f 5) fun jc =>
 Option.bind (
 bif (io.le 0 jK) then (
 bif (io.le 0 jC) then (
 some (io.lt kV 0)
 ) else (
 some false
 )
 ) else (
 some false
 )
 ) fun eY =>
 Option.bind (Eb p f 6) fun v7 =>
 Option.bind (Eb p f 7) fun v8 =>
 Option.bind (
 dw (PW p f) (0,0)
 ) fun kS =>
 Option.bind (
 bif (io.le 0 jC) then (
 Option.bind (bU p.Rules jC) fun x21 =>
 Option.bind (bU p.Rules jC) fun Y7 =>
 Option.bind (bU p.Rules jC) fun x23 =>
 some (x21.N,Y7.R.Num,Y7.R.Den,x23.S.Num,x23.S.Den)
 ) else (
 some (0,0,1,0,1)
 )
 ) fun (jV,sN,sS,sK,sQ) =>
 Option.bind (
 bif (io.le 0 iZ) then (
 Option.bind (bU p.Rules iZ) fun x28 =>
 Option.bind (bU p.Rules iZ) fun x29 =>
 some (x28.R.Num,x28.R.Den,x29.S.Num,x29.S.Den)
 ) else (
 some (0,1,0,1)
 )
 ) fun (bZ,cO,bY,cu) =>
 Option.bind (
 bif (io.le 0 jc) then (
 Option.bind (bU p.Rules jc) fun x32 =>
 some (x32.R.Num,x32.R.Den)
 ) else (
 some (0,1)
 )
 ) fun (cZ,dh) =>
 Option.bind (
 bif (io.le 0 kV) then (
 some kV
 ) else (
 some jK
 )
 ) fun Gi =>
 some (Decision.mk eY (io.le 0 v7) (io.le 0 v8) kS jV (Ratio.mk sN sS) (Ratio.mk sK sQ) (Ratio.mk bZ cO) (Ratio.mk bY cu) (Ratio.mk cZ dh) Gi)
noncomputable def OE (l:(List Int))(n:Int):Int->Option ((Int) ⊕ (Int))
 |at4 =>
 Option.bind (
 bif (io.lt at4 (io.len (W aH l))) then (
 Option.bind (bU l at4) fun x6 =>
 some (io.lt x6 n)
 ) else (
 some false
 )
 ) fun v5 =>
 bif v5 then (
 some (.inl (io.ar .add .i64 at4 1))
 ) else (
 some (.inr at4)
 )
noncomputable def Ov (l:(List Int))(n:Int)(limit:Range):Option ((List Int)) :=
 Option.bind (
 bif (io.le n limit.Lo) then (
 some true
 ) else (
 bif (io.lt limit.Hi n) then (
 some true
 ) else (
 Option.bind (Gx l n) fun v2 =>
 some v2
 )
 )
 ) fun v1 =>
 bif v1 then (
 some l
 ) else (
 Option.bind (
 dw (OE l n) 0
 ) fun at3 =>
 Option.bind (some ([]:List Int)) fun l7 =>
 Option.bind (BF l 0 at3) fun l8 =>
 Option.bind (appG l7 l8) fun RP =>
 Option.bind (some [n]) fun l10 =>
 Option.bind (appG RP l10) fun JC =>
 Option.bind (BF l at3 (io.len (W aH l))) fun l12 =>
 Option.bind (appG JC l12) fun SK =>
 some SK
 )
noncomputable def RI (lv:(List Int))(zones:(List (aF Range)))(at0:Int)(Hq:Int)(Ht:Int):((List Int)×Int)->Option (((List Int)×Int) ⊕ ((List Int)))
 |(out6,i7) =>
 bif (io.lt i7 (io.len (W aH lv))) then (
 Option.bind (
 Option.bind (bU lv i7) fun x11 =>
 Option.bind (bU zones x11) fun x12 =>
 Option.bind (oh 10 at0) fun TY =>
 some (i7,(x12.get TY).Lo,(x12.get TY).Hi)
 ) fun (Dh,zi,lY) =>
 Option.bind (Ov out6 zi (Range.mk Hq Ht)) fun nH =>
 Option.bind (Ov nH (io.ar .add .i64 lY 1) (Range.mk Hq Ht)) fun JB =>
 some (.inl (JB,(io.ar .add .i64 Dh 1)))
 ) else (
 some (.inr out6)
 )
noncomputable def VG (rules:(List Rule))(zones:(List (aF Range)))(at0:Int)(lv:(List Int))(nodes:(List Node))(leaves:(List Decision))(attr:(List Int))(live:(List (List Int)))(made:(List Int))(full:Bool):Option ((List Int)) :=
 Option.bind (
 Option.bind (Bo) fun v3 =>
 Option.bind (oh 10 at0) fun i4 =>
 some ((v3.get i4).Lo,(v3.get i4).Hi)
 ) fun (Hq,Ht) =>
 Option.bind (
 dw (RI lv zones at0 Hq Ht) ([],0)
 ) fun nM =>
 some nM
noncomputable def Ny (nodes:(List Node))(n:Node)(leaves:(List Decision))(attr:(List Int))(live:(List (List Int)))(made:(List Int))(full:Bool):Int->Option ((Int) ⊕ ((Unit) ⊕ (Int×(List Node)×(List Decision)×(List Int)×(List (List Int))×(List Int)×Bool)))
 |i1 =>
 bif (io.lt i1 (io.len (W bC nodes))) then (
 Option.bind (oL nodes i1) fun i2 =>
 Option.bind (nodes[i2]?) fun v3 =>
 Option.bind (L9 v3 n) fun v4 =>
 bif v4 then (
 some (.inr (.inr (i1,nodes,leaves,attr,live,made,full)))
 ) else (
 some (.inl (io.ar .add .i64 i1 1))
 )
 ) else (
 some (.inr (.inl ()))
 )
noncomputable def NU (rules:(List Rule))(zones:(List (aF Range)))(n:Node)(nodes:(List Node))(leaves:(List Decision))(attr:(List Int))(live:(List (List Int)))(made:(List Int))(full:Bool):Option (Int×(List Node)×(List Decision)×(List Int)×(List (List Int))×(List Int)×Bool) :=
 gu (
 dw (Ny nodes n leaves attr live made full) 0
 ) fun _ =>
 Option.bind (some [n]) fun l5 =>
 Option.bind (appG nodes l5) fun l6 =>
 Option.bind (
 bif full then (
 some true
 ) else (
 some (io.lt 20000 (io.len (W bC l6)))
 )
 ) fun zl =>
 some ((io.ar .sub .i64 (io.len (W bC l6)) 1),l6,leaves,attr,live,made,zl)
noncomputable def O4 (leaves:(List Decision))(d:Decision):(Int×Int)->Option ((Int×Int) ⊕ (Int))
 |(at2,i3) =>
 bif (io.lt i3 (io.len (W bJ leaves))) then (
 Option.bind (
 Option.bind (oL leaves i3) fun i5 =>
 Option.bind (leaves[i5]?) fun v6 =>
 bif (Ez v6 d) then (
 some i3
 ) else (
 some at2
 )
 ) fun at4 =>
 some (.inl (at4,(io.ar .add .i64 i3 1)))
 ) else (
 some (.inr at2)
 )
noncomputable def VI (rules:(List Rule))(zones:(List (aF Range)))(d:Decision)(nodes:(List Node))(leaves:(List Decision))(attr:(List Int))(live:(List (List Int)))(made:(List Int))(full:Bool):Option (Int×(List Node)×(List Decision)×(List Int)×(List (List Int))×(List Int)×Bool) :=
 Option.bind (
 dw (O4 leaves d) ((-1),0)
 ) fun Qs =>
 Option.bind (
 bif (io.lt Qs 0) then (
 Option.bind (some [d]) fun l9 =>
 Option.bind (appG leaves l9) fun l10 =>
 some (l10,(io.len (W bJ leaves)))
 ) else (
 some (leaves,Qs)
 )
 ) fun (pF,at8) =>
 Option.bind (NU rules zones (Node.mk 0 [] [] at8) nodes pF attr live made full) fun r11 =>
 some (r11.1,r11.2.1,r11.2.2.1,r11.2.2.2.1,r11.2.2.2.2.1,r11.2.2.2.2.2.1,r11.2.2.2.2.2.2)
noncomputable def Kr (live:(List (List Int)))(attr:(List Int))(at0:Int)(lv:(List Int))(made:(List Int))(nodes:(List Node))(leaves:(List Decision))(full:Bool):Int->Option ((Int) ⊕ ((Unit) ⊕ (Int×(List Node)×(List Decision)×(List Int)×(List (List Int))×(List Int)×Bool)))
 |i3 =>
 bif (io.lt i3 (io.len (W xZ live))) then (
 Option.bind (
 Option.bind (oL attr i3) fun i5 =>
 Option.bind (attr[i5]?) fun v6 =>
 bif (io.eq v6 at0) then (
 Option.bind (oL live i3) fun i7 =>
 Option.bind (live[i7]?) fun v8 =>
 Option.bind (JV v8 lv) fun v9 =>
 some v9
 ) else (
 some false
 )
 ) fun v4 =>
 bif v4 then (
 Option.bind (oL made i3) fun Ip =>
 Option.bind (made[Ip]?) fun v11 =>
 some (.inr (.inr (v11,nodes,leaves,attr,live,made,full)))
 ) else (
 some (.inl (io.ar .add .i64 i3 1))
 )
 ) else (
 some (.inr (.inl ()))
 )
noncomputable def Qk (lv:(List Int))(zones:(List (aF Range)))(at0:Int)(f45:(aF Int)):(Int×(List Int)×Int)->Option ((Int×(List Int)×Int) ⊕ (Int×(List Int)))
 |(i51,kQ,EI) =>
 bif (io.lt EI (io.len (W aH lv))) then (
 Option.bind (
 Option.bind (
 Option.bind (bU lv EI) fun bW =>
 Option.bind (bU zones bW) fun Y6 =>
 Option.bind (oh 10 at0) fun i61 =>
 some (i51,(Y6.get i61).Lo,(Y6.get i61).Hi)
 ) fun (i56,F7,Gf) =>
 Option.bind (
 Option.bind (oh 10 at0) fun TN =>
 bif (io.le F7 (f45.get TN)) then (
 some (i56,(io.le (f45.get TN) Gf))
 ) else (
 some (i56,false)
 )
 ) fun (i62,v63) =>
 bif v63 then (
 Option.bind (bU lv EI) fun x65 =>
 Option.bind (some [x65]) fun l66 =>
 Option.bind (appG kQ l66) fun Et =>
 some (i62,Et)
 ) else (
 some (i62,kQ)
 )
 ) fun (i54,uq) =>
 some (.inl (i54,uq,(io.ar .add .i64 EI 1)))
 ) else (
 some (.inr (i51,kQ))
 )
noncomputable def Jq (r12:(List Int))(at0:Int)(lv:(List Int))(zones:(List (aF Range)))(rec:(Int->(List Int)->(aF Int)->(List Node)->(List Decision)->(List Int)->(List (List Int))->(List Int)->Bool->Option (Int×(List Node)×(List Decision)×(List Int)×(List (List Int))×(List Int)×Bool))):((List Node)×(List Decision)×(List Int)×(List (List Int))×(List Int)×Bool×(aF Int)×(List Int)×(List Int)×Int)->Option (((List Node)×(List Decision)×(List Int)×(List (List Int))×(List Int)×Bool×(aF Int)×(List Int)×(List Int)×Int) ⊕ ((List Node)×(List Decision)×(List Int)×(List (List Int))×(List Int)×Bool×(List Int)×(List Int)))
 |(fQ,eX,iY,iU,iT,iV,f27,fO,eP,i30) =>
 bif (io.le i30 (io.len (W aH r12))) then (
 Option.bind (
 Option.bind (
 Option.bind (Bo) fun v43 =>
 Option.bind (oh 10 at0) fun i44 =>
 some ((f27.put i44 (v43.get i44).Lo),i30)
 ) fun (f41,i42) =>
 Option.bind (
 bif (io.lt 0 i42) then (
 Option.bind (bU r12 (io.ar .sub .i64 i42 1)) fun x47 =>
 Option.bind (oh 10 at0) fun i48 =>
 some ((f41.put i48 x47),i42)
 ) else (
 some (f41,i42)
 )
 ) fun (f45,i46) =>
 Option.bind (
 dw (Qk lv zones at0 f45) (i46,[],0)
 ) fun (i49,uw) =>
 Option.bind (
 Option.bind (rec (io.ar .add .i64 at0 1) uw f45 fQ eX iY iU iT iV) fun Jw =>
 some (Jw.2.1,Jw.2.2.1,Jw.2.2.2.1,Jw.2.2.2.2.1,Jw.2.2.2.2.2.1,Jw.2.2.2.2.2.2,i49,Jw.1)
 ) fun (jW,ji,mg,lQ,lN,lZ,i74,sF) =>
 Option.bind (
 bif (io.lt 0 (io.len (W aH eP))) then (
 Option.bind (oL eP (io.ar .sub .i64 (io.len (W aH eP)) 1)) fun i79 =>
 Option.bind (eP[i79]?) fun v80 =>
 some (i74,(io.eq v80 sF))
 ) else (
 some (i74,false)
 )
 ) fun (i77,v78) =>
 bif v78 then (
 some (jW,ji,mg,lQ,lN,lZ,f45,fO,eP,i77)
 ) else (
 Option.bind (
 bif (io.lt 0 i77) then (
 Option.bind (oh 10 at0) fun i83 =>
 Option.bind (some [(f45.get i83)]) fun l84 =>
 Option.bind (appG fO l84) fun l85 =>
 some (l85,i77)
 ) else (
 some (fO,i77)
 )
 ) fun (vJ,i82) =>
 Option.bind (some [sF]) fun l86 =>
 Option.bind (appG eP l86) fun l87 =>
 some (jW,ji,mg,lQ,lN,lZ,f45,vJ,l87,i82)
 )
 ) fun (o8,lW,vO,vg,uX,vF,f37,vK,vw,i40) =>
 some (.inl (o8,lW,vO,vg,uX,vF,f37,vK,vw,(io.ar .add .i64 i40 1)))
 ) else (
 some (.inr (fQ,eX,iY,iU,iT,iV,fO,eP))
 )
noncomputable def NT (rules:(List Rule))(zones:(List (aF Range)))(rec:(Int->(List Int)->(aF Int)->(List Node)->(List Decision)->(List Int)->(List (List Int))->(List Int)->Bool->Option (Int×(List Node)×(List Decision)×(List Int)×(List (List Int))×(List Int)×Bool)))(at0:Int)(lv:(List Int))(f:(aF Int))(nodes:(List Node))(leaves:(List Decision))(attr:(List Int))(live:(List (List Int)))(made:(List Int))(full:Bool):Option (Int×(List Node)×(List Decision)×(List Int)×(List (List Int))×(List Int)×Bool) :=
 bif full then (
 some (0,nodes,leaves,attr,live,made,full)
 ) else (
 bif (io.eq at0 10) then (
 Option.bind (PE (au.mk rules) f) fun v1 =>
 Option.bind (VI rules zones v1 nodes leaves attr live made full) fun r2 =>
 some (r2.1,r2.2.1,r2.2.2.1,r2.2.2.2.1,r2.2.2.2.2.1,r2.2.2.2.2.2.1,r2.2.2.2.2.2.2)
 ) else (
 gu (
 dw (Kr live attr at0 lv made nodes leaves full) 0
 ) fun _ =>
 Option.bind (VG rules zones at0 lv nodes leaves attr live made full) fun r12 =>
 Option.bind (
 dw (Jq r12 at0 lv zones rec) (nodes,leaves,attr,live,made,full,f,[],[],0)
 ) fun (mW,kG,rQ,rO,rM,rP,vM,lX) =>
 Option.bind (oL lX 0) fun i88 =>
 Option.bind (lX[i88]?) fun v89 =>
 Option.bind (
 bif (io.lt 1 (io.len (W aH lX))) then (
 Option.bind (NU rules zones (Node.mk at0 vM lX 0) mW kG rQ rO rM rP) fun Jv =>
 some (Jv.2.1,Jv.2.2.1,Jv.2.2.2.1,Jv.2.2.2.2.1,Jv.2.2.2.2.2.1,Jv.2.2.2.2.2.2,Jv.1)
 ) else (
 some (mW,kG,rQ,rO,rM,rP,v89)
 )
 ) fun (oW,lS,vN,uZ,uV,vC,qp) =>
 Option.bind (some [at0]) fun l98 =>
 Option.bind (appG vN l98) fun l99 =>
 Option.bind (some [lv]) fun SS =>
 Option.bind (appG uZ SS) fun SQ =>
 Option.bind (some [qp]) fun SN =>
 Option.bind (appG uV SN) fun SL =>
 some (qp,oW,lS,l99,SQ,SL,vC)
 )
 )
noncomputable def Ic (rules:(List Rule))(zones:(List (aF Range))):Nat->Int->(List Int)->(aF Int)->(List Node)->(List Decision)->(List Int)->(List (List Int))->(List Int)->Bool->Option (Int×(List Node)×(List Decision)×(List Int)×(List (List Int))×(List Int)×Bool)
 |0,_,_,_,_,_,_,_,_,_=>none
 |n+1,at0,lv,f,nodes,leaves,attr,live,made,full=>NT rules zones (Ic rules zones n) at0 lv f nodes leaves attr live made full
noncomputable def Ol (nN:(List Int))(l:(List Int))(i3:Int):Int->Option ((Int) ⊕ (Int))
 |k6 =>
 Option.bind (
 bif (io.lt 0 k6) then (
 Option.bind (bU nN (io.ar .sub .i64 k6 1)) fun x8 =>
 Option.bind (bU l i3) fun x9 =>
 some (io.lt x9 x8)
 ) else (
 some false
 )
 ) fun v7 =>
 bif v7 then (
 some (.inl (io.ar .sub .i64 k6 1))
 ) else (
 some (.inr k6)
 )
noncomputable def TM (l:(List Int)):((List Int)×Int)->Option (((List Int)×Int) ⊕ ((List Int)))
 |(nN,i3) =>
 bif (io.lt i3 (io.len (W aH l))) then (
 Option.bind (
 Option.bind (
 dw (Ol nN l i3) (io.len (W aH nN))
 ) fun k5 =>
 Option.bind (bU l i3) fun x10 =>
 Option.bind (some [x10]) fun JO =>
 Option.bind (BF nN k5 (io.len (W aH nN))) fun l12 =>
 Option.bind (appG JO l12) fun Ei =>
 Option.bind (some ([]:List Int)) fun Ap =>
 Option.bind (BF nN 0 k5) fun l15 =>
 Option.bind (appG Ap l15) fun SI =>
 Option.bind (appG SI Ei) fun JA =>
 some JA
 ) fun qm =>
 some (.inl (qm,(io.ar .add .i64 i3 1)))
 ) else (
 some (.inr nN)
 )
noncomputable def KJ (l:(List Int)):Option ((List Int)) :=
 Option.bind (
 dw (TM l) ([],0)
 ) fun out1 =>
 some out1
noncomputable def X8 (n:Node):Option (Int) :=
 bif (io.eq (io.len (W aH n.Kids)) 0) then (
 some 10
 ) else (
 some n.Attr
 )
def xs3 : List ah:=gS 1 [.box 50 0,.mv (ci 0)]
def xt3 : List ah:=gS 3 [.aj 2 1,.load 1 false 3,.len false 4,.bin .eql 5 (ci 0)]
def xl3 : List ah:=gS 2 [.mv (ci 10)]
def xd3 : List ah:=gS 7 [.aj 0 1,.load 1 false 7]++gS 2 [.mv 8]
def c57 : fJ:=⟨9,.seq (.reg xs3) (.seq (.seq (.reg xt3) (.cond 6 (.seq (.reg xl3) (.ret)) (.skip))) (.seq (.reg xd3) (.ret))),[.tmp 2]⟩
theorem sw2 : fD Tryz.prog 57=some c57.er:=by kernel_rfl
set_option maxHeartbeats 4000000 in
theorem yl1 {P:Program}(hP:P=Tryz.prog)(n:Node)(r:Int)(h:X8 n=some r):Fn1 P 57 [La n] (G8 r):=by
 refine .mJ (hP▸sw2) fun K hK=>?_;unfold X8 at h;cbv;refine aG h ?_ ?_<;>intro h
 ·cbv;obtain rfl:=oj h;exact hK _ _ aJ
 ·cbv;obtain rfl:=oj h;exact hK _ _ aJ
def xm3 : List ah:=gS 2 [.mv cn]
def xf3 : List ah:=gS 3 [.mv cn]
def xh3 : List ah:=gS 4 [.mv (ci 0)]
def xp3 : List ah:=gS 7 [.mv 4,.mv 0,.len false 8,.bin .lss 7 9]
def xg3 : List ah:=gS 13 [.mv 3,.len false 13]++gS 5 [.mv 14]
def xb3 : List ah:=gS 15 [.mv 5,.bin .gtr 15 (ci 0),.mv 16]++gQ 17 true 18 [.mv 3,.mv 5,.bin .sub 19 (ci 1),.aQ 1 18 20,.load 1 false 21,.mv 0,.mv 4,.aQ 1 23 24,.load 1 false 25,.bin .gtr 22 26]++gS 28 [.pick 17 27 (cB false)]
def xy3 : List ah:=gS 29 [.mv 5,.bin .sub 29 (ci 1)]++gS 5 [.mv 30]
def xc3 : DE:=.seq (.join (.par true true true 12 xb3) (.cond 28 (.skip) (.exit 2))) (.block 3 (.reg xy3))
def xw3 : List ah:=gS 31 [.mv 0,.mv 4,.aQ 1 31 32,.load 1 false 33,.aU 3 1 1 oz [(0,34)],.mv 3,.mv 5,.slc 1 36 (some 37) none,.app 3 1 8 oz 35 38]++gS 6 [.mv 39]
def xv3 : List ah:=gS 40 [.aU 3 1 0 oz [],.mv 3,.mv 5,.slc 1 41 none (some 42),.app 3 1 8 oz 40 43,.mv 6,.app 3 1 8 oz 44 45]++gS 3 [.mv 46]
def sx2 : List ah:=gS 11 [.mv 4,.bin .add 11 (ci 1)]++gS 4 [.mv 12]
def sk2 : DE:=.seq (.seq (.reg xp3) (.cond 10 (.skip) (.exit 0))) (.join (.block 1 (.seq (.reg xg3) (.join (.block 2 (.loop xc3)) (.seq (.hyb true true 8 xw3) (.reg xv3))))) (.reg sx2))
def sj2 : List ah:=gS 47 [.mv 3]++gS 2 [.mv 47]
def c58 : fJ:=⟨48,.seq (.reg xm3) (.seq (.reg xf3) (.join (.seq (.reg xh3) (.block 0 (.loop sk2))) (.seq (.reg sj2) (.ret)))),[.tmp 2]⟩
theorem sv2 : fD Tryz.prog 58=some c58.er:=by kernel_rfl
set_option maxHeartbeats 4000000 in
theorem ea0 {P:Program}(hP:P=Tryz.prog)(l:(List Int))(r:(List Int))(h:KJ l=some r):Fn1 P 58 [LG l] (LG r):=by
 refine .mJ (hP▸sv2) fun K hK=>?_;unfold KJ at h;cbv;refine .g h (fun (out1:(List Int))=>rp 3 .top++[dq aH out1]++rp 44 .top) (fun out1=>[]) (fun y hm Kn1 aC=>?_) fun t h=>?_
 ·have h:=hm;clear hm;cbv;refine .g h (fun ((nN,i3):(List Int)×Int)=>[dq aH l,.top,.top,dq aH nN,oi i3]++rp 43 .top) (fun (nN,i3)=>[]) (.nz (.aB [] ?_)) fun s x h hr2 Kn2 bg=>?_
  ·exact mx
  unfold TM at h;obtain⟨nN,i3⟩:=s;cbv;refine aG h ?_ ?_<;>intro h
  ·cbv;refine .g h (fun (qm:(List Int))=>[dq aH l,.top,.top,dq aH qm,oi i3]++rp 43 .top) (fun qm=>[]) (fun y hm Kn3 aP=>?_) fun t h=>?_
   ·have h:=hm;clear hm;cbv;refine .g h (fun (k5:Int)=>[dq aH l,.top,.top,dq aH nN,oi i3,oi k5]++rp 42 .top) (fun k5=>[]) (fun y hm ku aY=>?_) fun t h=>?_
    ·have h:=hm;clear hm;cbv;refine .g h (fun (k6:Int)=>[dq aH l,.top,.top,dq aH nN,oi i3,oi k6]++rp 42 .top) (fun k6=>[]) (.nz (.aB [] ?_)) fun s x h wo Hr jH=>?_
     ·exact mx
     unfold Ol at h;obtain⟨k6,rfl⟩:=ez s;cbv;refine .g h (fun (v7:Bool)=>[dq aH l,.top,.top,dq aH nN,oi i3,oi k6]++rp 22 .top++[ob v7]++rp 19 .top) (fun v7=>[]) (fun y hm N9 jY=>?_) fun t h=>?_
     ·have h:=hm;clear hm;cbv;refine aG h ?_ ?_<;>intro h
      ·cbv;refine .g h (fun _=>rfl) fun x8 h=>?_;cbv;refine .g h (fun _=>rfl) fun x9 h=>?_;cbv;obtain rfl:=oj h;exact jY _ _ _ rfl (.nz (.aB [] mx))
      ·cbv;obtain rfl:=oj h;exact jY _ _ _ rfl (.nz (.aB [] mx))
     obtain⟨v7,rfl⟩:=ez t;cbv;refine aG h ?_ ?_<;>intro h
     ·cbv;obtain rfl:=oj h;exact jH _ _ _ rfl (.nz (.aB [] mx))
     ·cbv;obtain rfl:=oj h;obtain rfl:=wo _ rfl;exact aY _ _ _ rfl (.nz (.aB [] mx))
    obtain⟨k5,rfl⟩:=ez t;cbv;refine .g h (fun _=>rfl) fun x10 h=>?_;cbv;refine .g (e:=aH) h (gU aJ (jP _)) fun JO h=>?_;cbv;refine .g h (fun _=>rfl) fun l12 h=>?_;cbv;refine .g h rfl (fun _=>rfl) (by decide) fun Ei h=>?_;cbv;refine .g (e:=aH) h (jP _) fun Ap h=>?_;cbv;refine .g h (fun _=>rfl) fun l15 h=>?_;cbv;refine .g h rfl (fun _=>rfl) (by decide) fun SI h=>?_;cbv;refine .g h rfl (fun _=>rfl) (by decide) fun JA h=>?_;cbv;obtain rfl:=oj h;exact aP _ _ _ rfl (.ng [.hd 4] (.nz (.aB [] mx)))
   obtain⟨qm,rfl⟩:=ez t;cbv;obtain rfl:=oj h;exact bg _ _ _ rfl (.nz (.aB [] mx))
  ·cbv;obtain rfl:=oj h;obtain rfl:=hr2 _ rfl;exact aC _ _ _ rfl (.nz (.aB [] mx))
 obtain⟨out1,rfl⟩:=ez t;cbv;obtain rfl:=oj h;exact hK _ _ aJ
noncomputable def OG (n:Node)(p1:Int):Int->Option ((Int) ⊕ (Int))
 |i2 =>
 Option.bind (
 bif (io.lt i2 (io.len (W aH n.aI))) then (
 Option.bind (bU n.aI i2) fun x4 =>
 some (io.le x4 p1)
 ) else (
 some false
 )
 ) fun v3 =>
 bif v3 then (
 some (.inl (io.ar .add .i64 i2 1))
 ) else (
 some (.inr i2)
 )
noncomputable def Oy (n:Node)(p1:Int):Option (Int) :=
 Option.bind (
 dw (OG n p1) 0
 ) fun i1 =>
 Option.bind (bU n.Kids i1) fun x5 =>
 some x5
def xx3 : List ah:=gS 2 [.box 50 0]++gS 4 [.mv (ci 0)]
def xj3 : List ah:=gS 5 [.mv (ci 0)]
def xz3 : List ah:=gS 6 [.mv 5,.aj 1 2,.load 1 false 7,.len false 8,.bin .lss 6 9,.mv 10]++gQ 11 true 12 [.aj 1 2,.load 1 false 12,.mv 5,.aQ 1 13 14,.load 1 false 15,.mv 1,.bin .leq 16 17]++gS 19 [.pick 11 18 (cB false)]
def xq3 : List ah:=gS 20 [.mv 5,.bin .add 20 (ci 1)]++gS 5 [.mv 21]
def xk3 : DE:=.seq (.join (.reg xz3) (.cond 19 (.skip) (.exit 0))) (.block 1 (.reg xq3))
def vu3 : List ah:=gS 22 [.aj 2 2,.load 1 false 22,.mv 5,.aQ 1 23 24,.load 1 false 25]++gS 4 [.mv 26]
def c59 : fJ:=⟨27,.seq (.reg xx3) (.seq (.reg xj3) (.join (.block 0 (.loop xk3)) (.seq (.reg vu3) (.ret)))),[.tmp 4]⟩
theorem sz2 : fD Tryz.prog 59=some c59.er:=by kernel_rfl
set_option maxHeartbeats 4000000 in
theorem ra0 {P:Program}(hP:P=Tryz.prog)(n:Node)(p1:Int)(r:Int)(h:Oy n p1=some r):Fn1 P 59 [La n,G8 p1] (G8 r):=by
 refine .mJ (hP▸sz2) fun K hK=>?_;unfold Oy at h;cbv;refine .g h (fun (i1:Int)=>[.top,.top,.ptr 0 0,.top,.top,oi i1]++rp 21 .top) (fun i1=>[.cells [oi n.Attr,dq aH n.aI,dq aH n.Kids,oi n.Leaf] 50]) (fun y hm Kn1 aC=>?_) fun t h=>?_
 ·have h:=hm;clear hm;cbv;refine .g h (fun (i2:Int)=>[.top,oi p1,.ptr 0 0,.top,.top,oi i2]++rp 21 .top) (fun i2=>[.cells [oi n.Attr,dq aH n.aI,dq aH n.Kids,oi n.Leaf] 50]) (.nz (.aB [0] ?_)) fun s x h hr2 Kn2 bg=>?_
  ·exact mx
  unfold OG at h;obtain⟨i2,rfl⟩:=ez s;cbv;refine .g h (fun (v3:Bool)=>[.top,oi p1,.ptr 0 0,.top,.top,oi i2]++rp 13 .top++[ob v3]++rp 7 .top) (fun v3=>[.cells [oi n.Attr,dq aH n.aI,dq aH n.Kids,oi n.Leaf] 50]) (fun y hm Kn3 aP=>?_) fun t h=>?_
  ·have h:=hm;clear hm;cbv;refine aG h ?_ ?_<;>intro h
   ·cbv;refine .g h (fun _=>rfl) fun x4 h=>?_;cbv;obtain rfl:=oj h;exact aP _ _ _ rfl (.nz (.aB [0] mx))
   ·cbv;obtain rfl:=oj h;exact aP _ _ _ rfl (.nz (.aB [0] mx))
  obtain⟨v3,rfl⟩:=ez t;cbv;refine aG h ?_ ?_<;>intro h
  ·cbv;obtain rfl:=oj h;exact bg _ _ _ rfl (.nz (.aB [0] mx))
  ·cbv;obtain rfl:=oj h;obtain rfl:=hr2 _ rfl;exact aC _ _ _ rfl (.nz (.aB [0] mx))
 obtain⟨i1,rfl⟩:=ez t;cbv;refine .g h (fun _=>rfl) fun x5 h=>?_;cbv;obtain rfl:=oj h;exact hK _ _ aJ
noncomputable def Tf (r_:Rule):Option (Bool) :=
 bif (io.eq r_.Kind 1) then (
 bif (io.le 0 r_.N) then (
 some (io.le r_.N 100)
 ) else (
 some false
 )
 ) else (
 bif (io.eq r_.Kind 3) then (
 bif (io.le 0 r_.N) then (
 bif (io.le r_.N 10000000) then (
 bif (io.le 1 r_.R.Den) then (
 bif (io.le r_.R.Den 1000000) then (
 bif (io.le 0 r_.R.Num) then (
 bif (io.le r_.R.Num (io.ar .mul .i64 1 r_.R.Den)) then (
 bif (io.le r_.R.Num 1000000) then (
 bif (io.le 1 r_.S.Den) then (
 bif (io.le r_.S.Den 1000000) then (
 bif (io.le 0 r_.S.Num) then (
 bif (io.le r_.S.Num (io.ar .mul .i64 1 r_.S.Den)) then (
 some (io.le r_.S.Num 1000000)
 ) else (
 some false
 )
 ) else (
 some false
 )
 ) else (
 some false
 )
 ) else (
 some false
 )
 ) else (
 some false
 )
 ) else (
 some false
 )
 ) else (
 some false
 )
 ) else (
 some false
 )
 ) else (
 some false
 )
 ) else (
 some false
 )
 ) else (
 some false
 )
 ) else (
 bif (io.eq r_.Kind 4) then (
 bif (io.le 1 r_.R.Den) then (
 bif (io.le r_.R.Den 1000000) then (
 bif (io.le 0 r_.R.Num) then (
 bif (io.le r_.R.Num (io.ar .mul .i64 10 r_.R.Den)) then (
 bif (io.le r_.R.Num 1000000) then (
 bif (io.le 1 r_.S.Den) then (
 bif (io.le r_.S.Den 1000000) then (
 bif (io.le 0 r_.S.Num) then (
 bif (io.le r_.S.Num (io.ar .mul .i64 1 r_.S.Den)) then (
 some (io.le r_.S.Num 1000000)
 ) else (
 some false
 )
 ) else (
 some false
 )
 ) else (
 some false
 )
 ) else (
 some false
 )
 ) else (
 some false
 )
 ) else (
 some false
 )
 ) else (
 some false
 )
 ) else (
 some false
 )
 ) else (
 some false
 )
 ) else (
 bif (io.eq r_.Kind 5) then (
 bif (io.le 1 r_.R.Den) then (
 bif (io.le r_.R.Den 1000000) then (
 bif (io.le 0 r_.R.Num) then (
 bif (io.le r_.R.Num (io.ar .mul .i64 1 r_.R.Den)) then (
 some (io.le r_.R.Num 1000000)
 ) else (
 some false
 )
 ) else (
 some false
 )
 ) else (
 some false
 )
 ) else (
 some false
 )
 ) else (
 bif (io.eq r_.Kind 2) then (
 some true
 ) else (
 bif (io.eq r_.Kind 6) then (
 some true
 ) else (
 some (io.eq r_.Kind 7)
 )
 )
 )
 )
 )
 )
noncomputable def Om (x3:Rule)(k6:Int)(v1:(aF Range)):Int->Option ((Int) ⊕ ((Unit) ⊕ ((Int) ⊕ ((Unit) ⊕ ((Unit) ⊕ ((Int) ⊕ ((Unit) ⊕ (Bool))))))))
 |a7 =>
 bif (io.lt a7 10) then (
 Option.bind (
 Option.bind (bU x3.ay k6) fun x9 =>
 Option.bind (oh 10 a7) fun Ip =>
 Option.bind (bU x3.ay k6) fun x11 =>
 bif (io.lt (x11.get Ip).Hi (x9.get Ip).Lo) then (
 some true
 ) else (
 Option.bind (bU x3.ay k6) fun x12 =>
 bif (io.lt (x12.get Ip).Lo (v1.get Ip).Lo) then (
 some true
 ) else (
 Option.bind (bU x3.ay k6) fun mF =>
 some (io.lt (v1.get Ip).Hi (mF.get Ip).Hi)
 )
 )
 ) fun v8 =>
 bif v8 then (
 some (.inr (.inr (.inr (.inr (.inr (.inr (.inr false)))))))
 ) else (
 some (.inl (io.ar .add .i64 a7 1))
 )
 ) else (
 some (.inr (.inl ()))
 )
noncomputable def Oh (x3:Rule)(v1:(aF Range)):Int->Option ((Int) ⊕ ((Unit) ⊕ ((Unit) ⊕ ((Int) ⊕ ((Unit) ⊕ (Bool))))))
 |k6 =>
 bif (io.lt k6 (io.len (W dD x3.ay))) then (
 gu (
 dw (Om x3 k6 v1) 0
 ) fun _ =>
 some (.inl (io.ar .add .i64 k6 1))
 ) else (
 some (.inr (.inl ()))
 )
noncomputable def Jo (i2:Int)(p:au)(x3:Rule):Int->Option ((Int) ⊕ ((Unit) ⊕ ((Int) ⊕ ((Unit) ⊕ (Bool)))))
 |k14 =>
 bif (io.lt k14 i2) then (
 Option.bind (bU p.Rules k14) fun x15 =>
 bif (io.seq x15.Name x3.Name) then (
 some (.inr (.inr (.inr (.inr false))))
 ) else (
 some (.inl (io.ar .add .i64 k14 1))
 )
 ) else (
 some (.inr (.inl ()))
 )
noncomputable def TK (p:au)(v1:(aF Range)):Int->Option ((Int) ⊕ ((Unit) ⊕ (Bool)))
 |i2 =>
 bif (io.lt i2 (io.len (W aZ p.Rules))) then (
 gu (
 Option.bind (bU p.Rules i2) fun x3 =>
 Option.bind (
 Option.bind (Tf x3) fun v5 =>
 bif (io.not v5) then (
 some true
 ) else (
 some (io.lt 200 (io.len (W dD x3.ay)))
 )
 ) fun v4 =>
 bif v4 then (
 some (.inr (.inr (.inr false)))
 ) else (
 gu (
 dw (Oh x3 v1) 0
 ) fun _ =>
 dw (Jo i2 p x3) 0
 )
 ) fun _ =>
 some (.inl (io.ar .add .i64 i2 1))
 ) else (
 some (.inr (.inl ()))
 )
noncomputable def Gq (p:au):Option (Bool) :=
 bif (io.lt 200 (io.len (W aZ p.Rules))) then (
 some false
 ) else (
 Option.bind (Bo) fun v1 =>
 gu (
 dw (TK p v1) 0
 ) fun _ =>
 some true
 )
noncomputable def PV (p:au)(i6:Int):((List (aF Range))×(List Int)×Int)->Option (((List (aF Range))×(List Int)×Int) ⊕ ((List (aF Range))×(List Int)))
 |(nS,qw,k11) =>
 Option.bind (bU p.Rules i6) fun x12 =>
 bif (io.lt k11 (io.len (W dD x12.ay))) then (
 Option.bind (some [(io.len (W dD nS))]) fun SK =>
 Option.bind (appG qw SK) fun Ey =>
 Option.bind (bU p.Rules i6) fun x15 =>
 Option.bind (bU x15.ay k11) fun x16 =>
 Option.bind (some [x16]) fun l17 =>
 Option.bind (appG nS l17) fun JM =>
 some (.inl (JM,Ey,(io.ar .add .i64 k11 1)))
 ) else (
 some (.inr (nS,qw))
 )
noncomputable def P5 (p:au):((List (aF Range))×(List Int)×Int)->Option (((List (aF Range))×(List Int)×Int) ⊕ ((List (aF Range))×(List Int)))
 |(rJ,wJ,i6) =>
 bif (io.lt i6 (io.len (W aZ p.Rules))) then (
 Option.bind (
 dw (PV p i6) (rJ,wJ,0)
 ) fun (uS,yw) =>
 some (.inl (uS,yw,(io.ar .add .i64 i6 1)))
 ) else (
 some (.inr (rJ,wJ))
 )
noncomputable def P6 (bQ:(List Node))(jl:Int)(bK:(List Decision)):((List Int)×Int)->Option (((List Int)×Int) ⊕ ((List Int)))
 |(mM,i33) =>
 Option.bind (bU bQ jl) fun x34 =>
 bif (io.lt i33 (io.len (W aH x34.Kids))) then (
 Option.bind (
 Option.bind (bU bQ jl) fun x36 =>
 Option.bind (bU x36.Kids i33) fun x37 =>
 Option.bind (Ia bQ bK 61 x37 mM) fun r38 =>
 some r38
 ) fun oD =>
 some (.inl (oD,(io.ar .add .i64 i33 1)))
 ) else (
 some (.inr mM)
 )
noncomputable def P9 (dN:(List Int)):((List Int)×Int)->Option (((List Int)×Int) ⊕ ((List Int)))
 |(jD,i42) =>
 bif (io.lt i42 (io.len (W aH dN))) then (
 Option.bind (oL dN i42) fun i43 =>
 Option.bind (dN[i43]?) fun v44 =>
 Option.bind (oL jD v44) fun i45 =>
 Option.bind (QU jD i45 fun y46=>i42) fun l47 =>
 some (.inl (l47,(io.ar .add .i64 i42 1)))
 ) else (
 some (.inr jD)
 )
noncomputable def PO (wR:Node)(dY:(List Int)):((List Int)×Int)->Option (((List Int)×Int) ⊕ ((List Int)))
 |(qx,L6) =>
 bif (io.lt L6 (io.len (W aH wR.Kids))) then (
 Option.bind (bU wR.Kids L6) fun x61 =>
 Option.bind (oL dY x61) fun i62 =>
 Option.bind (dY[i62]?) fun v63 =>
 Option.bind (some [v63]) fun l64 =>
 Option.bind (appG qx l64) fun ED =>
 some (.inl (ED,(io.ar .add .i64 L6 1)))
 ) else (
 some (.inr qx)
 )
noncomputable def PL (dN:(List Int))(bQ:(List Node))(dY:(List Int))(bK:(List Decision)):((List Node)×(List Decision)×Int)->Option (((List Node)×(List Decision)×Int) ⊕ ((List Node)×(List Decision)))
 |(jr,iJ,i52) =>
 bif (io.lt i52 (io.len (W aH dN))) then (
 Option.bind (
 Option.bind (oL dN i52) fun i55 =>
 Option.bind (dN[i55]?) fun v56 =>
 Option.bind (bU bQ v56) fun wR =>
 Option.bind (
 dw (PO wR dY) ([],0)
 ) fun nR =>
 Option.bind (
 bif (io.eq (io.len (W aH nR)) 0) then (
 Option.bind (bU bK wR.Leaf) fun x68 =>
 Option.bind (some [x68]) fun l69 =>
 Option.bind (appG iJ l69) fun l70 =>
 some (l70,(io.ar .sub .i64 (io.len (W bJ l70)) 1))
 ) else (
 some (iJ,wR.Leaf)
 )
 ) fun (lT,vk) =>
 Option.bind (some [(Node.mk wR.Attr wR.aI nR vk)]) fun l71 =>
 Option.bind (appG jr l71) fun l72 =>
 some (l72,lT)
 ) fun (oZ,lU) =>
 some (.inl (oZ,lU,(io.ar .add .i64 i52 1)))
 ) else (
 some (.inr (jr,iJ))
 )
noncomputable def Je (p:au):Option (Table×Int) :=
 Option.bind (Gq p) fun v1 =>
 bif (io.not v1) then (
 some ((Table.mk [] []),1)
 ) else (
 Option.bind (
 dw (P5 p) ([],[],0)
 ) fun (fH,yx) =>
 Option.bind (
 Option.bind (Ic p.Rules fH 11 0 yx (aF.mk 0 0 0 0 0 0 0 0 0 0) ([]:(List Node)) ([]:(List Decision)) ([]:(List Int)) ([]:(List (List Int))) ([]:(List Int)) false) fun Jy =>
 some (Jy.2.1,Jy.2.2.1,Jy.2.2.2.1,Jy.2.2.2.2.1,Jy.2.2.2.2.2.1,Jy.2.2.2.2.2.2,Jy.1)
 ) fun (bQ,bK,gX,gW,gV,gy,jl) =>
 bif gy then (
 some ((Table.mk [] []),3)
 ) else (
 Option.bind (
 Option.bind (Gx [] jl) fun v28 =>
 bif v28 then (
 some []
 ) else (
 Option.bind (some [jl]) fun l29 =>
 Option.bind (appG ([]:List Int) l29) fun SG =>
 Option.bind (
 dw (P6 bQ jl bK) (SG,0)
 ) fun oG =>
 some oG
 )
 ) fun dN =>
 Option.bind (U4 (io.len (W bC bQ)) (0:Int)) fun l39 =>
 Option.bind (
 dw (P9 dN) (l39,0)
 ) fun dY =>
 Option.bind (
 dw (PL dN bQ dY bK) ([],[],0)
 ) fun (o7,lV) =>
 some ((Table.mk o7 lV),0)
 )
 )
end Go.SX.Td
