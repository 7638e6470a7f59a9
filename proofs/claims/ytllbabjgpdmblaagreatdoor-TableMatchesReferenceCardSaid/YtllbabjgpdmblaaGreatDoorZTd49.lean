/- Parts of the proof. -/
import Derived.Test.YtllbabjgpdmblaaGreatDoorZTdT
import Derived.Test.YtllbabjgpdmblaaGreatDoorZTd26d
set_option linter.unusedSimpArgs false
set_option linter.unusedVariables false
set_option linter.unusedSectionVars false
namespace Go.SX.Td
open Go Go.SX Go.Proofs
set_option maxRecDepth 100000
def cl2 : List GOp:=gS 2 [.box 54 0,.mv (cB false)]
def cd2 : List GOp:=gS 6 [.load 10 true 1,.mv (ci 0)]
def cc2 : List GOp:=gS 8 [.bin .lss 7 (ci 10)]
def cm2 : List GOp:=gS 9 [.mv 7,.idxV 10 1 false 6 7]++gS 4 [.mv 9,.mv 10]
def cf2 : List GOp:=gS 11 [.mv 5,.mv 4,.idxP 10 2 2 12,.fadd 0 13,.load 1 false 14,.bin .lss 11 15,.mv 16]++gQ 17 false 18 [.mv 5,.mv 4,.idxP 10 2 2 19,.fadd 1 20,.load 1 false 21,.bin .gtr 18 22]++gS 24 [.pick 17 (cB true) 23]
def ch2 : List GOp:=gS 3 [.mv (cB false)]
def cg2 : List GOp:=gS 25 [.bin .add 7 (ci 1)]++gS 7 [.mv 25]
def ct2 : DE:=.seq (.reg cc2) (.seq (.cond 8 (.skip) (.exit 0)) (.seq (.block 1 (.join (.reg cm2) (.join (.reg cf2) (.cond 24 (.seq (.reg ch2) (.ret)) (.skip))))) (.reg cg2)))
def cy2 : List GOp:=gS 3 [.mv (cB true)]
def c88 : EFn:=⟨26,.seq (.reg cl2) (.join (.seq (.reg cd2) (.block 0 (.loop ct2))) (.seq (.reg cy2) (.ret))),[.tmp 3]⟩
theorem yn2 : zv0 Tryz.prog 88=some c88.er:=by kernel_rfl
def qb3 : List GOp:=gS 2 [.box 58 0,.box 32 1,.mv (cB false)]
def qy3 : List GOp:=gS 5 [.fadd 2 2,.load 1 false 5,.mkfn (.func 88) [] [3],.call 48 [6,7]]++gS 4 [.mv 8]
def c68 : EFn:=⟨9,.seq (.reg qb3) (.seq (.reg qy3) (.ret)),[.tmp 4]⟩
theorem ju2 : zv0 Tryz.prog 68=some c68.er:=by kernel_rfl
set_option maxHeartbeats 4000000 in
theorem ym0 {P:Program}(hP:P=Tryz.prog)(r_:Rule)(f:(A10 Int))(r:Bool)(h:za0 r_ f=some r):Fn1 P 68 [sz1 r_,vn0 f] (vB r):=by
 refine .vz0 (hP▸ju2) fun K hK=>?_;unfold za0 at h;cbv;refine .inl (hP▸et1) ?_;cbv;refine .inl (hP▸ec1) ?_;cbv;refine .ga h (fun (_:Unit)=>rp 19 .top) (fun _=>[.cells [oi r_.Kind,.d (.val (.string r_.Name)),dq qj0 r_.Zones,oi r_.N,oi r_.R.Num,oi r_.R.Den,oi r_.S.Num,oi r_.S.Den] 58,.cells (ca f) 32]) (fun y hm hr1 Kn1 hKn1=>?_) fun t h=>?_
 ·have h:=hm;clear hm;cbv;refine .g h (fun (v1:Int)=>[dq qj0 r_.Zones,.clo (.func 88) [] [.ptr 1 0]]++rp 5 .top++[oi (io.len (W qj0 r_.Zones)),oi v1]++rp 10 .top) (fun v1=>[.cells [oi r_.Kind,.d (.val (.string r_.Name)),dq qj0 r_.Zones,oi r_.N,oi r_.R.Num,oi r_.R.Den,oi r_.S.Num,oi r_.S.Den] 58,.cells (ca f) 32]) (.nz (.mtE [0,1] ?_)) fun s x h hr2 Kn2 hKn2=>?_
  ·exact mx
  unfold ji0 at h;obtain⟨v1,rfl⟩:=ez s;cbv;refine qf0 h ?_ ?_<;>intro h
  ·cbv;refine .g h (fun (v2:Bool)=>[dq qj0 r_.Zones,.clo (.func 88) [] [.ptr 1 0]]++rp 3 .top++[oi v1,.top,oi (io.len (W qj0 r_.Zones)),oi v1]++rp 7 .top++[ob v2,.top,.top]) (fun v2=>[.cells [oi r_.Kind,.d (.val (.string r_.Name)),dq qj0 r_.Zones,oi r_.N,oi r_.R.Num,oi r_.R.Den,oi r_.S.Num,oi r_.S.Den] 58,.cells (ca f) 32]) (fun y hm Kn3 hKn3=>?_) fun t h=>?_
   ·have h:=hm;clear hm;cbv;refine .g h (fun _=>rfl) fun x3 h=>?_;cbv;refine .inl (hP▸yn2) ?_;cbv;refine .ga h (fun (_:Unit)=>rp 26 .top) (fun _=>[.cells [oi r_.Kind,.d (.val (.string r_.Name)),dq qj0 r_.Zones,oi r_.N,oi r_.R.Num,oi r_.R.Den,oi r_.S.Num,oi r_.S.Den] 58,.cells (ca f) 32]) (fun y hm hr4 Kn4 hKn4=>?_) fun t h=>?_
    ·have h:=hm;clear hm;cbv;refine .g h (fun (v4:Int)=>[.top,.top,.ptr 2 0]++rp 3 .top++[.agg (ca f),oi v4]++rp 18 .top) (fun v4=>[.cells [oi r_.Kind,.d (.val (.string r_.Name)),dq qj0 r_.Zones,oi r_.N,oi r_.R.Num,oi r_.R.Den,oi r_.S.Num,oi r_.S.Den] 58,.cells (ca f) 32,.cells (cR x3) 54]) (.nz (.mtE [0,1,2] ?_)) fun s x h hr5 Kn5 hKn5=>?_
     ·exact mx
     unfold yy0 at h;obtain⟨v4,rfl⟩:=ez s;cbv;refine qf0 h ?_ ?_<;>intro h
     ·cbv;refine .g h (fun (n5:Int)=>[.top,.top,.ptr 2 0,.top,oi v4,oi n5,.agg (ca f),oi v4]++rp 18 .top) (fun n5=>[.cells [oi r_.Kind,.d (.val (.string r_.Name)),dq qj0 r_.Zones,oi r_.N,oi r_.R.Num,oi r_.R.Den,oi r_.S.Num,oi r_.S.Den] 58,.cells (ca f) 32,.cells (cR x3) 54]) (fun y hm Kn6 hKn6=>?_) fun t h=>?_
      ·have h:=hm;clear hm;cbv
       refine .c10 h ?_ ?_ ?_ ?_ ?_ ?_ ?_ ?_ ?_ ?_<;>(
        intro hni6 h;cbv;obtain rfl:=oj h;exact hKn6 _ _ _ rfl (.nz (.mtE [0,1,2] mx))
        )
      obtain⟨n5,rfl⟩:=ez t;cbv;refine .g h (fun (v7:Bool)=>[.top,.top,.ptr 2 0]++rp 3 .top++[.agg (ca f),oi v4]++rp 16 .top++[ob v7,.top]) (fun v7=>[.cells [oi r_.Kind,.d (.val (.string r_.Name)),dq qj0 r_.Zones,oi r_.N,oi r_.R.Num,oi r_.R.Den,oi r_.S.Num,oi r_.S.Den] 58,.cells (ca f) 32,.cells (cR x3) 54]) (fun y hm Kn6 hKn6=>?_) fun t h=>?_
      ·have h:=hm;clear hm;cbv
       refine .c10 h ?_ ?_ ?_ ?_ ?_ ?_ ?_ ?_ ?_ ?_<;>(
        intro hnix8 h;cbv;refine qf0 h ?_ ?_<;>intro h
        ·cbv;obtain rfl:=oj h;exact hKn6 _ _ _ rfl (.nz (.mtE [0,1,2] mx))
        ·cbv;refine .at _ hnix8 (by decide) ?_;cbv;obtain rfl:=oj h;exact hKn6 _ _ _ rfl (.nz (.mtE [0,1,2] mx))
        )
      obtain⟨v7,rfl⟩:=ez t;cbv;refine qf0 h ?_ ?_<;>intro h
      ·cbv;obtain rfl:=oj h;obtain rfl:=hr5 _ rfl;obtain rfl:=hr4 _ rfl;exact hKn3 _ _ _ rfl (.nz (.mtE [0,1] mx))
      ·cbv;obtain rfl:=oj h;exact hKn5 _ _ _ rfl (.nz (.mtE [0,1,2] mx))
     ·cbv;obtain rfl:=oj h;obtain rfl:=hr5 _ rfl;exact hKn4 _ _ _ rfl (.nz (.mtE [0,1] mx))
    cbv;obtain rfl:=oj h;exact hKn3 _ _ _ rfl (.nz (.mtE [0,1] mx))
   obtain⟨v2,rfl⟩:=ez t;cbv;refine qf0 h ?_ ?_<;>intro h
   ·cbv;obtain rfl:=oj h;obtain rfl:=hr2 _ rfl;obtain rfl:=hr1 _ rfl;exact hK _ _ aw_
   ·cbv;obtain rfl:=oj h;exact hKn2 _ _ _ rfl (.nz (.mtE [0,1] mx))
  ·cbv;obtain rfl:=oj h;obtain rfl:=hr2 _ rfl;exact hKn1 _ _ _ rfl (.nz (.mtE [0,1] mx))
 cbv;obtain rfl:=oj h;exact hK _ _ aw_
end Go.SX.Td
namespace Go.SX.Td
open Go Go.SX Go.Proofs
set_option maxRecDepth 100000
def qw3 : List GOp:=[⟨(some 4),.load 1 false 2,none⟩,⟨(some 5),.mv 0,none⟩,⟨(some 6),.load 1 false 1,none⟩,⟨(some 7),.len false 6,none⟩,⟨none,.mset (.int .i64) false 4 5 7,none⟩]
def qv3 : List GOp:=[⟨(some 8),.load 1 false 1,none⟩,⟨(some 9),.mv 0,none⟩,⟨(some 10),.bslice 3 1 1 (.int .i64 0) [(0,9)],none⟩,⟨(some 11),.app 3 1 8 (.int .i64 0) 8 10,none⟩,⟨none,.store 1 1 11,none⟩]
def c75 : EFn:=⟨12,.seq (.reg qw3) (.reg qv3),[]⟩
theorem jo2 : zv0 Tryz.prog 75=some c75.er:=by kernel_rfl
set_option maxHeartbeats 8000000 in
theorem iz1 {P:Program}(hP:P=Tryz.prog)(nodes:(List Node))(rec:(Int→(List (Int×Bool))→(List Int)→(List (Int×Int))→Option ((List (Int×Bool))×(List Int)×(List (Int×Int)))))(at0:Int)(seen:(List (Int×Bool)))(ord:(List Int))(number:(List (Int×Int)))(hrec:∀ at0 seen ord number r,rec at0 seen ord number=some r→qe0 P 81 [.cells [.hd 1] 134,.mp (.int .i64) false (WM (Value.int .i64) eB seen),.cells [.clo (.func 75) [] [.ptr 3 0,.ptr 5 0]] 95,.cells [.hd 4] 48,rA ord,.cells [.hd 6] 129,.mp (.int .i64) false (WM (Value.int .i64) qq0 number),.cells [.hd 8] 25,rB nodes,.cells [.clo (.func 81) [] [.ptr 0 0,.ptr 2 0,.ptr 7 0,.ptr 9 0]] 95] [.d (.val (.int .i64 at0)),.ptr 0 0,.ptr 2 0,.ptr 7 0,.ptr 9 0] (fun sv own'=>sv=.tup []∧own'=[.cells [.hd 1] 134,.mp (.int .i64) false (WM (Value.int .i64) eB r.1),.cells [.clo (.func 75) [] [.ptr 3 0,.ptr 5 0]] 95,.cells [.hd 10] 48,.gone,.cells [.hd 6] 129,.mp (.int .i64) false (WM (Value.int .i64) qq0 r.2.2),.cells [.hd 8] 25,rB nodes,.cells [.clo (.func 81) [] [.ptr 0 0,.ptr 2 0,.ptr 7 0,.ptr 9 0]] 95,rA r.2.1]))(r:(List (Int×Bool))×(List Int)×(List (Int×Int)))(h:lc0 nodes rec at0 seen ord number=some r):qe0 P 81 [.cells [.hd 1] 134,.mp (.int .i64) false (WM (Value.int .i64) eB seen),.cells [.clo (.func 75) [] [.ptr 3 0,.ptr 5 0]] 95,.cells [.hd 4] 48,rA ord,.cells [.hd 6] 129,.mp (.int .i64) false (WM (Value.int .i64) qq0 number),.cells [.hd 8] 25,rB nodes,.cells [.clo (.func 81) [] [.ptr 0 0,.ptr 2 0,.ptr 7 0,.ptr 9 0]] 95] [.d (.val (.int .i64 at0)),.ptr 0 0,.ptr 2 0,.ptr 7 0,.ptr 9 0] (fun sv own'=>sv=.tup []∧own'=[.cells [.hd 1] 134,.mp (.int .i64) false (WM (Value.int .i64) eB r.1),.cells [.clo (.func 75) [] [.ptr 3 0,.ptr 5 0]] 95,.cells [.hd 10] 48,.gone,.cells [.hd 6] 129,.mp (.int .i64) false (WM (Value.int .i64) qq0 r.2.2),.cells [.hd 8] 25,rB nodes,.cells [.clo (.func 81) [] [.ptr 0 0,.ptr 2 0,.ptr 7 0,.ptr 9 0]] 95,rA r.2.1]):=by
 refine .yh1 10 rfl (Nat.le_of_ble_eq_true rfl) (hP▸ed1) fun K hK=>?_;unfold lc0 at h;cbv;refine .gi (e:=eB) h (by first | rfl | exact yz0 _ _) (fun h=>h) fun y1 h=>?_;cbv;refine qf0 h (fun h=>?_) (fun h=>?_)
 ·cbv;obtain rfl:=Option.some.inj h;refine hK _ _ [0,1,2,3,4,5,6,7,8,9,4] ?_;(cbv;repeat (refine⟨by first | rfl | exact xr0 _ | simp only[ka0] | simp only[vx0],?_⟩;cbv))
 ·cbv;refine .gi (e:=eB) h (by first | rfl | exact yz0 _ _) (by first | rfl | exact xr0 _ | (cbv;simp only[ka0])) fun m2 h=>?_;cbv;refine .g h (fun ((c3,own4):(List Int)×(List (Int×Int)))=>[.d (.val (.int .i64 at0)),.top,.top,.ptr 7 0,.ptr 9 0]++List.replicate 25 .top) (fun (c3,own4)=>[.cells [.hd 1] 134,.mp (.int .i64) false (WM (Value.int .i64) eB m2),.cells [.clo (.func 75) [] [.ptr 3 0,.ptr 5 0]] 95,.cells [.hd 10] 48,.gone,.cells [.hd 6] 129,.mp (.int .i64) false (WM (Value.int .i64) qq0 own4),.cells [.hd 8] 25,rB nodes,.cells [.clo (.func 81) [] [.ptr 0 0,.ptr 2 0,.ptr 7 0,.ptr 9 0]] 95,rA c3]) (fun y hm Kn1 hKn1=>?_) fun t h=>?_
  ·have h:=hm;clear hm;cbv;refine .inl (hP▸jo2) ?_;cbv;refine .gi (e:=qq0) h (by first | rfl | exact yz0 _ _) (by first | rfl | exact xr0 _ | (cbv;simp only[ka0])) fun m5 h=>?_;cbv;refine .g (e:=qq0) h (qd0 (by first | rfl | exact xr0 _ | (cbv;simp only[ka0])) (zw0 _)) fun l6 h=>?_;cbv;refine .g h rfl (fun _=>rfl) (by decide) fun l7 h=>?_;cbv;obtain rfl:=Option.some.inj h;refine hKn1 _ _ _ rfl (.nz (.mtE [0,1,2,3,4,5,6,7,8,9,11] ?_));(cbv;repeat (refine⟨by first | rfl | exact xr0 _ | simp only[ka0] | simp only[vx0],?_⟩;cbv))
  obtain⟨c3,own4⟩:=t;cbv;refine .g h fun ix8 h=>?_;cbv;refine .g h fun v9 h=>?_;cbv;refine .g h (fun ((own10,c11,own12,v13):(List (Int×Bool))×(List Int)×(List (Int×Int))×Int)=>List.replicate 4 .top++[.ptr 9 0]++List.replicate 15 .top++[dq qq0 v9.Kids,.d (.val (.int .i64 (io.len (W qq0 v9.Kids)))),.d (.val (.int .i64 v13))]++List.replicate 7 .top) (fun (own10,c11,own12,v13)=>[.cells [.hd 1] 134,.mp (.int .i64) false (WM (Value.int .i64) eB own10),.cells [.clo (.func 75) [] [.ptr 3 0,.ptr 5 0]] 95,.cells [.hd 10] 48,.gone,.cells [.hd 6] 129,.mp (.int .i64) false (WM (Value.int .i64) qq0 own12),.cells [.hd 8] 25,rB nodes,.cells [.clo (.func 81) [] [.ptr 0 0,.ptr 2 0,.ptr 7 0,.ptr 9 0]] 95,rA c11]) (.nz (.mtE [0,1,2,3,4,5,6,7,8,9,10] ?_)) fun s x h hr1 Kn1 hKn1=>?_
  ·(cbv;repeat (refine⟨by first | rfl | exact xr0 _ | simp only[ka0] | simp only[vx0],?_⟩;cbv))
  unfold pj0 at h;obtain⟨own10,c11,own12,v13⟩:=s;cbv;refine qf0 h (fun h=>?_) (fun h=>?_)
  ·cbv;refine .g h (fun ((own14,c15,own16):(List (Int×Bool))×(List Int)×(List (Int×Int)))=>List.replicate 4 .top++[.ptr 9 0]++List.replicate 15 .top++[dq qq0 v9.Kids,.d (.val (.int .i64 (io.len (W qq0 v9.Kids)))),.d (.val (.int .i64 v13))]++List.replicate 7 .top) (fun (own14,c15,own16)=>[.cells [.hd 1] 134,.mp (.int .i64) false (WM (Value.int .i64) eB own14),.cells [.clo (.func 75) [] [.ptr 3 0,.ptr 5 0]] 95,.cells [.hd 10] 48,.gone,.cells [.hd 6] 129,.mp (.int .i64) false (WM (Value.int .i64) qq0 own16),.cells [.hd 8] 25,rB nodes,.cells [.clo (.func 81) [] [.ptr 0 0,.ptr 2 0,.ptr 7 0,.ptr 9 0]] 95,rA c15]) (fun y hm Kn2 hKn2=>?_) fun t h=>?_
   ·have h:=hm;clear hm;cbv;refine .g h (fun _=>rfl) fun x17 h=>?_;cbv;obtain⟨r18,hm,h⟩:=Option.bind_eq_some_iff.1 h;refine .dr1 [0,1,2,3,10,5,6,7,8,9] (hrec _ _ _ _ _ hm) (by (cbv;repeat (refine⟨by first | rfl | exact xr0 _ | simp only[ka0] | simp only[vx0],?_⟩;cbv))) fun sv0 own0 hq _=>?_;obtain⟨rfl,rfl⟩:=hq;clear hm;cbv;obtain rfl:=Option.some.inj h;refine hKn2 _ _ _ rfl (.nz (.mtE [0,1,2,3,4,5,6,7,8,9,11] ?_));(cbv;repeat (refine⟨by first | rfl | exact xr0 _ | simp only[ka0] | simp only[vx0],?_⟩;cbv))
   obtain⟨own14,c15,own16⟩:=t;cbv;obtain rfl:=Option.some.inj h;refine hKn1 _ _ _ rfl (.nz (.mtE [0,1,2,3,4,5,6,7,8,9,10] ?_));(cbv;repeat (refine⟨by first | rfl | exact xr0 _ | simp only[ka0] | simp only[vx0],?_⟩;cbv))
  ·cbv;obtain rfl:=Option.some.inj h;obtain rfl:=hr1 _ rfl;refine hK _ _ [0,1,2,3,4,5,6,7,8,9,10] ?_;(cbv;repeat (refine⟨by first | rfl | exact xr0 _ | simp only[ka0] | simp only[vx0],?_⟩;cbv))
theorem qz1 {P:Program}(hP:P=Tryz.prog)(nodes:(List Node)):∀ (n:Nat)(at0:Int)(seen:(List (Int×Bool)))(ord:(List Int))(number:(List (Int×Int)))(r:(List (Int×Bool))×(List Int)×(List (Int×Int))),walkT nodes n at0 seen ord number=some r→qe0 P 81 [.cells [.hd 1] 134,.mp (.int .i64) false (WM (Value.int .i64) eB seen),.cells [.clo (.func 75) [] [.ptr 3 0,.ptr 5 0]] 95,.cells [.hd 4] 48,rA ord,.cells [.hd 6] 129,.mp (.int .i64) false (WM (Value.int .i64) qq0 number),.cells [.hd 8] 25,rB nodes,.cells [.clo (.func 81) [] [.ptr 0 0,.ptr 2 0,.ptr 7 0,.ptr 9 0]] 95] [.d (.val (.int .i64 at0)),.ptr 0 0,.ptr 2 0,.ptr 7 0,.ptr 9 0] (fun sv own'=>sv=.tup []∧own'=[.cells [.hd 1] 134,.mp (.int .i64) false (WM (Value.int .i64) eB r.1),.cells [.clo (.func 75) [] [.ptr 3 0,.ptr 5 0]] 95,.cells [.hd 10] 48,.gone,.cells [.hd 6] 129,.mp (.int .i64) false (WM (Value.int .i64) qq0 r.2.2),.cells [.hd 8] 25,rB nodes,.cells [.clo (.func 81) [] [.ptr 0 0,.ptr 2 0,.ptr 7 0,.ptr 9 0]] 95,rA r.2.1])
 | 0,_,_,_,_,_,h=>by cases h
 | n+1,at0,seen,ord,number,r,h=>iz1 hP nodes _ at0 seen ord number (qz1 hP nodes n) r h
end Go.SX.Td
namespace Go.SX.Td
open Go Go.SX Go.Proofs
set_option maxRecDepth 100000
def xa3 : List GOp:=gS 7 [.box 54 3,.alloc 58 (.agg #[oz,(.string ⟨#[]⟩),(.slice none 0 0),oz,oz,oz,oz,oz])]
def xr3 : List GOp:=gS 10 [.build (.agg #[oz,oz]) [((1,1),(ci 1))]]++gS 9 [.alloc 42 (.agg #[oz,oz])]++[⟨none,.store 2 9 10,none⟩]
def xn3 : List GOp:=gS 11 [.mv 0,.mv 1,.load 20 true 7,.bslice 54 20 1 (.agg #[oz,oz,oz,oz,oz,oz,oz,oz,oz,oz,oz,oz,oz,oz,oz,oz,oz,oz,oz,oz]) [(0,13)],.mv 2,.load 2 true 9,.load 2 true 9,.build (.agg #[oz,(.string ⟨#[]⟩),(.slice none 0 0),oz,oz,oz,oz,oz]) [((0,1),11),((1,1),12),((2,1),14),((3,1),15),((4,2),16),((6,2),17)]]++[⟨none,.store 8 8 18,none⟩]
def c27 : EFn:=⟨19,.seq (.reg xa3) (.seq (.reg xr3) (.seq (.reg xn3) (.ret))),[.cell 8 8 true]⟩
theorem dm2 : zv0 Tryz.prog 27=some c27.er:=by kernel_rfl
set_option maxHeartbeats 4000000 in
theorem gf0 {P:Program}(hP:P=Tryz.prog)(kind:Int)(name:ByteArray)(n:Int)(z_:(A10 Range))(r:Rule)(h:kd0 kind name n z_=some r):Fn1 P 27 [tt0 kind,vS name,tt0 n,dy0 z_] (sz1 r):=by
 refine .vz0 (hP▸dm2) fun K hK=>?_;unfold kd0 at h;cbv;refine .g (e:=qj0) h (qd0 aw_ (zw0 _)) fun l1 h=>?_;cbv;obtain rfl:=oj h;exact hK _ _ aw_
end Go.SX.Td
namespace Go.SX.Td
open Go Go.SX Go.Proofs
set_option maxRecDepth 100000
def xs3 : List GOp:=gS 3 [.box 52 1,.alloc 54 (.agg #[oz,oz,oz,oz,oz,oz,oz,oz,oz,oz,oz,oz,oz,oz,oz,oz,oz,oz,oz,oz])]
def xt3 : List GOp:=gS 6 [.call 23 []]++gS 5 [.alloc 54 (.agg #[oz,oz,oz,oz,oz,oz,oz,oz,oz,oz,oz,oz,oz,oz,oz,oz,oz,oz,oz,oz])]++[⟨none,.store 20 5 6,none⟩]
def xl3 : List GOp:=gS 7 [.mv 0,.load 2 true 3,.idxP 10 2 5 7]++[⟨none,.store 2 9 8,none⟩]
def xd3 : List GOp:=gS 10 [.load 20 true 5]++[⟨none,.store 20 4 10,none⟩]
def c28 : EFn:=⟨11,.seq (.reg xs3) (.seq (.reg xt3) (.join (.reg xl3) (.seq (.reg xd3) (.ret)))),[.cell 4 20 true]⟩
theorem dh2 : zv0 Tryz.prog 28=some c28.er:=by kernel_rfl
set_option maxHeartbeats 4000000 in
theorem rg0 {P:Program}(hP:P=Tryz.prog)(attr:Int)(r_:Range)(r:(A10 Range))(h:kl0 attr r_=some r):Fn1 P 28 [tt0 attr,cg1 r_] (dy0 r):=by
 refine .vz0 (hP▸dh2) fun K hK=>?_;unfold kl0 at h;cbv;refine .g h (fun v hv=>js0 hP v hv) aw_ rfl (fun _=>rfl) fun v1 h=>?_;cbv;refine .g h (fun (z2:(A10 Range))=>rp 4 .top++[.ptr 0 0,.ptr 1 0]++rp 5 .top) (fun z2=>[.cells [oi 0,oi 0,oi 0,oi 0,oi 0,oi 0,oi 0,oi 0,oi 0,oi 0,oi 0,oi 0,oi 0,oi 0,oi 0,oi 0,oi 0,oi 0,oi 0,oi 0] 54,.cells (cR z2) 54]) (fun y hm Kn1 hKn1=>?_) fun t h=>?_
 ·have h:=hm;clear hm;cbv
  refine .c10 h ?_ ?_ ?_ ?_ ?_ ?_ ?_ ?_ ?_ ?_<;>(
   intro hni3 h;cbv;obtain rfl:=oj h;exact hKn1 _ _ _ rfl (.nz (.mtE [1,2] mx))
   )
 obtain⟨z2,rfl⟩:=ez t;cbv;obtain rfl:=oj h;exact hK _ _ aw_
end Go.SX.Td
namespace Go.SX.Td
open Go Go.SX Go.Proofs
set_option maxRecDepth 100000
def zm3 : List GOp:=gS 4 [.mv (cB false)]
def zf3 : List GOp:=gS 6 [.mv 0,.len false 6,.mv 1,.len false 8,.bin .neq 7 9]
def zh3 : List GOp:=gS 4 [.mv (cB false)]
def zp3 : List GOp:=gS 5 [.mv (ci 0)]
def zg3 : List GOp:=gS 11 [.mv 5,.mv 0,.len false 12,.bin .lss 11 13]
def zb3 : List GOp:=gS 17 [.mv 0,.mv 5,.idxA 1 17 18,.load 1 false 19,.mv 1,.mv 5,.idxA 1 21 22,.load 1 false 23,.bin .neq 20 24]
def zy3 : List GOp:=gS 4 [.mv (cB false)]
def zw3 : List GOp:=gS 15 [.mv 5,.bin .add 15 (ci 1)]++gS 5 [.mv 16]
def zc3 : DE:=.seq (.seq (.reg zg3) (.cond 14 (.skip) (.exit 0))) (.seq (.block 1 (.seq (.par true true true 8 zb3) (.cond 25 (.seq (.reg zy3) (.ret)) (.skip)))) (.reg zw3))
def zv3 : List GOp:=gS 4 [.mv (cB true)]
def c60 : EFn:=⟨26,.seq (.reg zm3) (.seq (.seq (.reg zf3) (.cond 10 (.seq (.reg zh3) (.ret)) (.skip))) (.join (.seq (.reg zp3) (.block 0 (.loop zc3))) (.seq (.reg zv3) (.ret)))),[.tmp 4]⟩
theorem ky2 : zv0 Tryz.prog 60=some c60.er:=by kernel_rfl
set_option maxHeartbeats 4000000 in
theorem dh0 {P:Program}(hP:P=Tryz.prog)(a:(List Int))(b:(List Int))(r:Bool)(h:jm0 a b=some r):Fn1 P 60 [qk1 a,qk1 b] (vB r):=by
 refine .vz0 (hP▸ky2) fun K hK=>?_;unfold jm0 at h;cbv;refine qf0 h ?_ ?_<;>intro h
 ·cbv;obtain rfl:=oj h;exact hK _ _ aw_
 ·cbv;refine .ga h (fun (_:Unit)=>rp 26 .top) (fun _=>[]) (fun y hm hr1 Kn1 hKn1=>?_) fun t h=>?_
  ·have h:=hm;clear hm;cbv;refine .g h (fun (i1:Int)=>[dq qq0 a,dq qq0 b]++rp 3 .top++[oi i1]++rp 20 .top) (fun i1=>[]) (.nz (.mtE [] ?_)) fun s x h hr2 Kn2 hKn2=>?_
   ·exact mx
   unfold vu0 at h;obtain⟨i1,rfl⟩:=ez s;cbv;refine qf0 h ?_ ?_<;>intro h
   ·cbv;refine .g h (fun _=>rfl) fun x2 h=>?_;cbv;refine .g h (fun _=>rfl) fun x3 h=>?_;cbv;refine qf0 h ?_ ?_<;>intro h
    ·cbv;obtain rfl:=oj h;obtain rfl:=hr2 _ rfl;obtain rfl:=hr1 _ rfl;exact hK _ _ aw_
    ·cbv;obtain rfl:=oj h;exact hKn2 _ _ _ rfl (.nz (.mtE [] mx))
   ·cbv;obtain rfl:=oj h;obtain rfl:=hr2 _ rfl;exact hKn1 _ _ _ rfl (.nz (.mtE [] mx))
  cbv;obtain rfl:=oj h;exact hK _ _ aw_
end Go.SX.Td
namespace Go.SX.Td
open Go Go.SX Go.Proofs
set_option maxRecDepth 100000
def xc3 : List GOp:=gS 2 [.box 50 0,.box 50 1,.mv (cB false)]
def xm3 : List GOp:=gS 5 [.fadd 0 2,.load 1 false 5,.fadd 0 3,.load 1 false 7,.bin .eql 6 8,.mv 9]++gQ 10 true 11 [.fadd 3 2,.load 1 false 11,.fadd 3 3,.load 1 false 13,.bin .eql 12 14]++gS 16 [.pick 10 15 (cB false),.mv 16]++gQ 17 true 18 [.fadd 1 2,.load 1 false 18,.fadd 1 3,.load 1 false 20,.call 60 [19,21]]++gS 23 [.pick 17 22 (cB false),.mv 23]++gQ 24 true 25 [.fadd 2 2,.load 1 false 25,.fadd 2 3,.load 1 false 27,.call 60 [26,28]]++gS 30 [.pick 24 29 (cB false)]++gS 4 [.mv 30]
def c29 : EFn:=⟨31,.seq (.reg xc3) (.seq (.reg xm3) (.ret)),[.tmp 4]⟩
theorem dp2 : zv0 Tryz.prog 29=some c29.er:=by kernel_rfl
set_option maxHeartbeats 4000000 in
theorem vi0 {P:Program}(hP:P=Tryz.prog)(a:Node)(b:Node)(r:Bool)(h:wh0 a b=some r):Fn1 P 29 [bz1 a,bz1 b] (vB r):=by
 refine .vz0 (hP▸dp2) fun K hK=>?_;unfold wh0 at h;cbv;refine qf0 h ?_ ?_<;>intro h
 ·cbv;refine qf0 h ?_ ?_<;>intro h
  ·cbv;refine .g h (fun v hv=>dh0 hP _ _ v hv) aw_ rfl (fun _=>rfl) fun v1 h=>?_;cbv;refine qf0 h ?_ ?_<;>intro h
   ·cbv;refine .g h (fun v hv=>dh0 hP _ _ v hv) aw_ rfl (fun _=>rfl) fun v2 h=>?_;cbv;obtain rfl:=oj h;exact hK _ _ aw_
   ·cbv;obtain rfl:=oj h;exact hK _ _ aw_
  ·cbv;obtain rfl:=oj h;exact hK _ _ aw_
 ·cbv;obtain rfl:=oj h;exact hK _ _ aw_
end Go.SX.Td
namespace Go.SX.Td
open Go Go.SX Go.Proofs
set_option maxRecDepth 100000
noncomputable def uq0 (p:Policy):(Int×Int)→Option ((Int×Int) ⊕ ((Int) ⊕ (Bool)))
 | (zones2,i3) =>
 bif (io.lt i3 (io.len (W qp0 p.Rules))) then (
 Option.bind (zf0 p.Rules i3) fun x4 =>
 Option.bind (zf0 p.Rules i3) fun x5 =>
 bif (io.lt 60 (io.ssz x5.Name)) then (
 some (.inr (.inr false))
 ) else (
 some (.inl ((io.ar .add .i64 zones2 (io.len (W qj0 x4.Zones))),(io.ar .add .i64 i3 1)))
 )
 ) else (
 some (.inr (.inl zones2))
 )
noncomputable def un0 (p:Policy):Option (Bool) :=
 orR (
 qw0 (uq0 p) (0,0)
 ) fun zones1 =>
 bif (io.le (io.len (W qp0 p.Rules)) 8) then (
 some (io.le zones1 10)
 ) else (
 some false
 )
end Go.SX.Td
namespace Go.SX.Td
open Go Go.SX Go.Proofs
set_option maxRecDepth 100000
def sv3 : List GOp:=gS 1 [.box 24 0,.mv (cB false)]
def sk3 : List GOp:=gS 3 [.mv (ci 0)]
def sx3 : List GOp:=gS 4 [.mv (ci 0)]
def sj3 : List GOp:=gS 5 [.mv 4,.fadd 0 1,.load 1 false 6,.len false 7,.bin .lss 5 8]
def sz3 : List GOp:=gS 12 [.mv 3,.fadd 0 1,.load 1 false 13,.mv 4,.idxA 8 14 15,.fadd 2 16,.load 1 false 17,.len false 18,.bin .add 12 19]++gS 3 [.mv 20]
def sq3 : List GOp:=gS 21 [.fadd 0 1,.load 1 false 21,.mv 4,.idxA 8 22 23,.fadd 1 24,.load 1 false 25,.len true 26,.bin .gtr 27 (ci 60)]
def du3 : List GOp:=gS 2 [.mv (cB false)]
def do3 : List GOp:=gS 10 [.mv 4,.bin .add 10 (ci 1)]++gS 4 [.mv 11]
def sw3 : DE:=.seq (.seq (.reg sj3) (.cond 9 (.skip) (.exit 0))) (.seq (.block 1 (.seq (.reg sz3) (.seq (.reg sq3) (.cond 28 (.seq (.reg du3) (.ret)) (.skip))))) (.reg do3))
def di3 : List GOp:=gS 29 [.fadd 0 1,.load 1 false 29,.len false 30,.bin .leq 31 (ci 8),.mv 32]++gQ 33 true 34 [.mv 3,.bin .leq 34 (ci 10)]++gS 36 [.pick 33 35 (cB false)]++gS 2 [.mv 36]
def c10 : EFn:=⟨37,.seq (.reg sv3) (.seq (.reg sk3) (.join (.seq (.reg sx3) (.block 0 (.loop sw3))) (.seq (.reg di3) (.ret)))),[.tmp 2]⟩
theorem ng2 : zv0 Tryz.prog 10=some c10.er:=by kernel_rfl
set_option maxHeartbeats 4000000 in
theorem jw1 {P:Program}(hP:P=Tryz.prog)(p:Policy)(r:Bool)(h:un0 p=some r):Fn1 P 10 [ud0 p] (vB r):=by
 refine .vz0 (hP▸ng2) fun K hK=>?_;unfold un0 at h;cbv;refine .ga h (fun (zones1:Int)=>[.top,.ptr 0 0,.top,oi zones1]++rp 33 .top) (fun zones1=>[.cells [dq qp0 p.Rules] 24]) (fun y hm hr1 Kn1 hKn1=>?_) fun t h=>?_
 ·have h:=hm;clear hm;cbv;refine .g h (fun ((zones2,i3):Int×Int)=>[.top,.ptr 0 0,.top,oi zones2,oi i3]++rp 32 .top) (fun (zones2,i3)=>[.cells [dq qp0 p.Rules] 24]) (.nz (.mtE [0] ?_)) fun s x h hr2 Kn2 hKn2=>?_
  ·exact mx
  unfold uq0 at h;obtain⟨zones2,i3⟩:=s;cbv;refine qf0 h ?_ ?_<;>intro h
  ·cbv;refine .g h (fun _=>rfl) fun x4 h=>?_;cbv;refine .g h (fun _=>rfl) fun x5 h=>?_;cbv;refine qf0 h ?_ ?_<;>intro h
   ·cbv;obtain rfl:=oj h;obtain rfl:=hr2 _ rfl;obtain rfl:=hr1 _ rfl;exact hK _ _ aw_
   ·cbv;obtain rfl:=oj h;exact hKn2 _ _ _ rfl (.nz (.mtE [0] mx))
  ·cbv;obtain rfl:=oj h;obtain rfl:=hr2 _ rfl;exact hKn1 _ _ _ rfl (.nz (.mtE [0] mx))
 obtain⟨zones1,rfl⟩:=ez t;cbv;refine qf0 h ?_ ?_<;>intro h
 ·cbv;obtain rfl:=oj h;exact hK _ _ aw_
 ·cbv;obtain rfl:=oj h;exact hK _ _ aw_
end Go.SX.Td
namespace Go.SX.Td
open Go Go.SX Go.Proofs
set_option maxRecDepth 100000
noncomputable def ve0 (a:Table)(b:Table):Int→Option ((Int) ⊕ ((Unit) ⊕ (Bool)))
 | i2 =>
 bif (io.lt i2 (io.len (W qk0 a.Nodes))) then (
 Option.bind (zf0 a.Nodes i2) fun x3 =>
 Option.bind (zf0 b.Nodes i2) fun x4 =>
 Option.bind (wh0 x3 x4) fun v5 =>
 bif (io.not v5) then (
 some (.inr (.inr false))
 ) else (
 some (.inl (io.ar .add .i64 i2 1))
 )
 ) else (
 some (.inr (.inl ()))
 )
noncomputable def va0 (a:Table)(b:Table):Int→Option ((Int) ⊕ ((Unit) ⊕ (Bool)))
 | i6 =>
 bif (io.lt i6 (io.len (W qz0 a.Leaves))) then (
 Option.bind (zf0 a.Leaves i6) fun x7 =>
 Option.bind (zf0 b.Leaves i6) fun x8 =>
 bif (io.not (jb0 x7 x8)) then (
 some (.inr (.inr false))
 ) else (
 some (.inl (io.ar .add .i64 i6 1))
 )
 ) else (
 some (.inr (.inl ()))
 )
noncomputable def jf0 (a:Table)(b:Table):Option (Bool) :=
 Option.bind (
 bif (io.not (io.eq (io.len (W qk0 a.Nodes)) (io.len (W qk0 b.Nodes)))) then (
 some true
 ) else (
 some (io.not (io.eq (io.len (W qz0 a.Leaves)) (io.len (W qz0 b.Leaves))))
 )
 ) fun v1 =>
 bif v1 then (
 some false
 ) else (
 orR (
 qw0 (ve0 a b) 0
 ) fun _ =>
 orR (
 qw0 (va0 a b) 0
 ) fun _ =>
 some true
 )
end Go.SX.Td
namespace Go.SX.Td
open Go Go.SX Go.Proofs
set_option maxRecDepth 100000
def fc3 : List GOp:=gS 2 [.box 28 0,.box 28 1,.mv (cB false)]
def fm3 : List GOp:=gS 7 [.fadd 0 2,.load 1 false 7,.len false 8,.fadd 0 3,.load 1 false 10,.len false 11,.bin .neq 9 12,.mv 13]++gQ 14 false 15 [.fadd 1 2,.load 1 false 15,.len false 16,.fadd 1 3,.load 1 false 18,.len false 19,.bin .neq 17 20]++gS 22 [.pick 14 (cB true) 21]
def ff3 : List GOp:=gS 4 [.mv (cB false)]
def fh3 : List GOp:=gS 5 [.mv (ci 0)]
def fp3 : List GOp:=gS 23 [.mv 5,.fadd 0 2,.load 1 false 24,.len false 25,.bin .lss 23 26]
def fg3 : List GOp:=gS 30 [.fadd 0 2,.load 1 false 30,.mv 5,.idxA 4 31 32,.load 4 true 33,.fadd 0 3,.load 1 false 35,.mv 5,.idxA 4 36 37,.load 4 true 38,.call 29 [34,39],.un .not 40]
def fb3 : List GOp:=gS 4 [.mv (cB false)]
def fy3 : List GOp:=gS 28 [.mv 5,.bin .add 28 (ci 1)]++gS 5 [.mv 29]
def fd3 : DE:=.seq (.seq (.reg fp3) (.cond 27 (.skip) (.exit 0))) (.seq (.block 1 (.seq (.par false false false 10 fg3) (.cond 41 (.seq (.reg fb3) (.ret)) (.skip)))) (.reg fy3))
def fw3 : List GOp:=gS 6 [.mv (ci 0)]
def pe2 : List GOp:=gS 42 [.mv 6,.fadd 1 2,.load 1 false 43,.len false 44,.bin .lss 42 45]
def pa2 : List GOp:=gS 49 [.fadd 1 2,.load 1 false 49,.mv 6,.idxA 16 50 51,.load 16 true 52,.fadd 1 3,.load 1 false 54,.mv 6,.idxA 16 55 56,.load 16 true 57,.beq true [.bool,.bool,.bool,.int,.int,.int,.int,.int,.int,.int,.int,.int,.int,.int,.int,.int] 53 58]
def pr2 : List GOp:=gS 4 [.mv (cB false)]
def pn2 : List GOp:=gS 47 [.mv 6,.bin .add 47 (ci 1)]++gS 6 [.mv 48]
def pi2 : DE:=.seq (.seq (.reg pe2) (.cond 46 (.skip) (.exit 2))) (.seq (.block 3 (.seq (.par true true true 10 pa2) (.cond 59 (.seq (.reg pr2) (.ret)) (.skip)))) (.reg pn2))
def pt2 : List GOp:=gS 4 [.mv (cB true)]
def c14 : EFn:=⟨60,.seq (.reg fc3) (.seq (.join (.reg fm3) (.cond 22 (.seq (.reg ff3) (.ret)) (.skip))) (.join (.seq (.reg fh3) (.block 0 (.loop fd3))) (.join (.seq (.reg fw3) (.block 2 (.loop pi2))) (.seq (.reg pt2) (.ret))))),[.tmp 4]⟩
theorem po2 : zv0 Tryz.prog 14=some c14.er:=by kernel_rfl
set_option maxHeartbeats 4000000 in
theorem zj1 {P:Program}(hP:P=Tryz.prog)(a:Table)(b:Table)(r:Bool)(h:jf0 a b=some r):Fn1 P 14 [uc0 a,uc0 b] (vB r):=by
 refine .vz0 (hP▸po2) fun K hK=>?_;unfold jf0 at h;cbv;refine .g h (fun (v1:Bool)=>[.top,.top,.ptr 0 0,.ptr 1 0]++rp 18 .top++[ob v1]++rp 37 .top) (fun v1=>[.cells [dq qk0 a.Nodes,dq qz0 a.Leaves] 28,.cells [dq qk0 b.Nodes,dq qz0 b.Leaves] 28]) (fun y hm Kn1 hKn1=>?_) fun t h=>?_
 ·have h:=hm;clear hm;cbv;refine qf0 h ?_ ?_<;>intro h
  ·cbv;obtain rfl:=oj h;exact hKn1 _ _ _ rfl (.nz (.mtE [0,1] mx))
  ·cbv;obtain rfl:=oj h;exact hKn1 _ _ _ rfl (.nz (.mtE [0,1] mx))
 obtain⟨v1,rfl⟩:=ez t;cbv;refine qf0 h ?_ ?_<;>intro h
 ·cbv;obtain rfl:=oj h;exact hK _ _ aw_
 ·cbv;refine .ga h (fun (_:Unit)=>[.top,.top,.ptr 0 0,.ptr 1 0]++rp 56 .top) (fun _=>[.cells [dq qk0 a.Nodes,dq qz0 a.Leaves] 28,.cells [dq qk0 b.Nodes,dq qz0 b.Leaves] 28]) (fun y hm hr1 Kn1 hKn1=>?_) fun t h=>?_
  ·have h:=hm;clear hm;cbv;refine .g h (fun (i2:Int)=>[.top,.top,.ptr 0 0,.ptr 1 0,.top,oi i2]++rp 54 .top) (fun i2=>[.cells [dq qk0 a.Nodes,dq qz0 a.Leaves] 28,.cells [dq qk0 b.Nodes,dq qz0 b.Leaves] 28]) (.nz (.mtE [0,1] ?_)) fun s x h hr2 Kn2 hKn2=>?_
   ·exact mx
   unfold ve0 at h;obtain⟨i2,rfl⟩:=ez s;cbv;refine qf0 h ?_ ?_<;>intro h
   ·cbv;refine .g h (fun _=>rfl) fun x3 h=>?_;cbv;refine .g h (fun _=>rfl) fun x4 h=>?_;cbv;refine .g h (fun v hv=>vi0 hP _ _ v hv) aw_ rfl (fun _=>rfl) fun v5 h=>?_;cbv;refine qf0 h ?_ ?_<;>intro h
    ·cbv;obtain rfl:=oj h;obtain rfl:=hr2 _ rfl;obtain rfl:=hr1 _ rfl;exact hK _ _ aw_
    ·cbv;obtain rfl:=oj h;exact hKn2 _ _ _ rfl (.nz (.mtE [0,1] mx))
   ·cbv;obtain rfl:=oj h;obtain rfl:=hr2 _ rfl;exact hKn1 _ _ _ rfl (.nz (.mtE [0,1] mx))
  cbv;refine .ga h (fun (_:Unit)=>rp 60 .top) (fun _=>[]) (fun y hm hr1 Kn1 hKn1=>?_) fun t h=>?_
  ·have h:=hm;clear hm;cbv;refine .g h (fun (i6:Int)=>[.top,.top,.ptr 0 0,.ptr 1 0,.top,.top,oi i6]++rp 53 .top) (fun i6=>[.cells [dq qk0 a.Nodes,dq qz0 a.Leaves] 28,.cells [dq qk0 b.Nodes,dq qz0 b.Leaves] 28]) (.nz (.mtE [0,1] ?_)) fun s x h hr2 Kn2 hKn2=>?_
   ·exact mx
   unfold va0 at h;obtain⟨i6,rfl⟩:=ez s;cbv;refine qf0 h ?_ ?_<;>intro h
   ·cbv;refine .g h (fun _=>rfl) fun x7 h=>?_;cbv;refine .g h (fun _=>rfl) fun x8 h=>?_;cbv;refine qf0 h ?_ ?_<;>intro h
    ·cbv;obtain rfl:=oj h;obtain rfl:=hr2 _ rfl;obtain rfl:=hr1 _ rfl;exact hK _ _ aw_
    ·cbv;obtain rfl:=oj h;exact hKn2 _ _ _ rfl (.nz (.mtE [0,1] mx))
   ·cbv;obtain rfl:=oj h;obtain rfl:=hr2 _ rfl;exact hKn1 _ _ _ rfl (.nz (.mtE [] mx))
  cbv;obtain rfl:=oj h;exact hK _ _ aw_
end Go.SX.Td
namespace Go.SX.Td
open Go Go.SX Go.Proofs
set_option maxRecDepth 100000
noncomputable def vv0 (t_:Table):Int→Option ((Int) ⊕ ((Unit) ⊕ (Bool)))
 | i1 =>
 bif (io.lt i1 (io.len (W qk0 t_.Nodes))) then (
 Option.bind (
 Option.bind (zf0 t_.Nodes i1) fun x3 =>
 bif (io.lt 20 (io.len (W qq0 x3.Cuts))) then (
 some true
 ) else (
 Option.bind (zf0 t_.Nodes i1) fun x4 =>
 some (io.lt 21 (io.len (W qq0 x4.Kids)))
 )
 ) fun v2 =>
 bif v2 then (
 some (.inr (.inr false))
 ) else (
 some (.inl (io.ar .add .i64 i1 1))
 )
 ) else (
 some (.inr (.inl ()))
 )
noncomputable def vr0 (t_:Table):Option (Bool) :=
 orR (
 qw0 (vv0 t_) 0
 ) fun _ =>
 bif (io.le (io.len (W qk0 t_.Nodes)) 60) then (
 some (io.le (io.len (W qz0 t_.Leaves)) 60)
 ) else (
 some false
 )
end Go.SX.Td
namespace Go.SX.Td
open Go Go.SX Go.Proofs
set_option maxRecDepth 100000
def da3 : List GOp:=gS 1 [.box 28 0,.mv (cB false)]
def dr3 : List GOp:=gS 3 [.mv (ci 0)]
def dn3 : List GOp:=gS 4 [.mv 3,.fadd 0 1,.load 1 false 5,.len false 6,.bin .lss 4 7]
def dt3 : List GOp:=gS 11 [.fadd 0 1,.load 1 false 11,.mv 3,.idxA 4 12 13,.fadd 1 14,.load 1 false 15,.len false 16,.bin .gtr 17 (ci 20),.mv 18]++gQ 19 false 20 [.fadd 0 1,.load 1 false 20,.mv 3,.idxA 4 21 22,.fadd 2 23,.load 1 false 24,.len false 25,.bin .gtr 26 (ci 21)]++gS 28 [.pick 19 (cB true) 27]
def dl3 : List GOp:=gS 2 [.mv (cB false)]
def dd3 : List GOp:=gS 9 [.mv 3,.bin .add 9 (ci 1)]++gS 3 [.mv 10]
def de3 : DE:=.seq (.seq (.reg dn3) (.cond 8 (.skip) (.exit 0))) (.seq (.block 1 (.join (.reg dt3) (.cond 28 (.seq (.reg dl3) (.ret)) (.skip)))) (.reg dd3))
def dc3 : List GOp:=gS 29 [.fadd 0 1,.load 1 false 29,.len false 30,.bin .leq 31 (ci 60),.mv 32]++gQ 33 true 34 [.fadd 1 1,.load 1 false 34,.len false 35,.bin .leq 36 (ci 60)]++gS 38 [.pick 33 37 (cB false)]++gS 2 [.mv 38]
def c11 : EFn:=⟨39,.seq (.reg da3) (.join (.seq (.reg dr3) (.block 0 (.loop de3))) (.seq (.reg dc3) (.ret))),[.tmp 2]⟩
theorem nb2 : zv0 Tryz.prog 11=some c11.er:=by kernel_rfl
set_option maxHeartbeats 4000000 in
theorem ip0 {P:Program}(hP:P=Tryz.prog)(t_:Table)(r:Bool)(h:vr0 t_=some r):Fn1 P 11 [uc0 t_] (vB r):=by
 refine .vz0 (hP▸nb2) fun K hK=>?_;unfold vr0 at h;cbv;refine .ga h (fun (_:Unit)=>[.top,.ptr 0 0]++rp 37 .top) (fun _=>[.cells [dq qk0 t_.Nodes,dq qz0 t_.Leaves] 28]) (fun y hm hr1 Kn1 hKn1=>?_) fun t h=>?_
 ·have h:=hm;clear hm;cbv;refine .g h (fun (i1:Int)=>[.top,.ptr 0 0,.top,oi i1]++rp 35 .top) (fun i1=>[.cells [dq qk0 t_.Nodes,dq qz0 t_.Leaves] 28]) (.nz (.mtE [0] ?_)) fun s x h hr2 Kn2 hKn2=>?_
  ·exact mx
  unfold vv0 at h;obtain⟨i1,rfl⟩:=ez s;cbv;refine qf0 h ?_ ?_<;>intro h
  ·cbv;refine .g h (fun (v2:Bool)=>[.top,.ptr 0 0,.top,oi i1]++rp 24 .top++[ob v2]++rp 10 .top) (fun v2=>[.cells [dq qk0 t_.Nodes,dq qz0 t_.Leaves] 28]) (fun y hm Kn3 hKn3=>?_) fun t h=>?_
   ·have h:=hm;clear hm;cbv;refine .g h (fun _=>rfl) fun x3 h=>?_;cbv;refine qf0 h ?_ ?_<;>intro h
    ·cbv;obtain rfl:=oj h;exact hKn3 _ _ _ rfl (.nz (.mtE [0] mx))
    ·cbv;refine .g h (fun _=>rfl) fun x4 h=>?_;cbv;obtain rfl:=oj h;exact hKn3 _ _ _ rfl (.nz (.mtE [0] mx))
   obtain⟨v2,rfl⟩:=ez t;cbv;refine qf0 h ?_ ?_<;>intro h
   ·cbv;obtain rfl:=oj h;obtain rfl:=hr2 _ rfl;obtain rfl:=hr1 _ rfl;exact hK _ _ aw_
   ·cbv;obtain rfl:=oj h;exact hKn2 _ _ _ rfl (.nz (.mtE [0] mx))
  ·cbv;obtain rfl:=oj h;obtain rfl:=hr2 _ rfl;exact hKn1 _ _ _ rfl (.nz (.mtE [0] mx))
 cbv;refine qf0 h ?_ ?_<;>intro h
 ·cbv;obtain rfl:=oj h;exact hK _ _ aw_
 ·cbv;obtain rfl:=oj h;exact hK _ _ aw_
end Go.SX.Td
namespace Go.SX.Td
open Go Go.SX Go.Proofs
set_option maxRecDepth 100000
noncomputable def jy0 (high1:(List Int)):((A10 Range)×Int)→Option (((A10 Range)×Int) ⊕ ((A10 Range)))
 | (z3,i4) =>
 bif (io.lt i4 (io.len (W qq0 high1))) then (
 Option.bind (
 Option.bind (gq0 high1 i4) fun i6 =>
 Option.bind (high1[i6]?) fun v7 =>
 Option.bind (ac0 10 i4) fun ix8 =>
 some (z3.put ix8 (Range.mk (z3.get ix8).Lo v7))
 ) fun z5 =>
 some (.inl (z5,(io.ar .add .i64 i4 1)))
 ) else (
 some (.inr z3)
 )
noncomputable def zr0 : Option ((A10 Range)) :=
 Option.bind (some [1000000000,150,1,19,7,319,3,3,12,100]) fun high1 =>
 Option.bind (
 qw0 (jy0 high1) ((A10.mk (Range.mk 0 0) (Range.mk 0 0) (Range.mk 0 0) (Range.mk 0 0) (Range.mk 0 0) (Range.mk 0 0) (Range.mk 0 0) (Range.mk 0 0) (Range.mk 0 0) (Range.mk 0 0)),0)
 ) fun z2 =>
 some (A10.mk z2.a0 z2.a1 z2.a2 z2.a3 z2.a4 z2.a5 z2.a6 z2.a7 (Range.mk 1 z2.a8.Hi) z2.a9)
end Go.SX.Td
namespace Go.SX.Td
open Go Go.SX Go.Proofs
set_option maxRecDepth 100000
noncomputable def kh0 (r_:Rule):Option (Bool) :=
 bif (io.eq r_.Kind 1) then (
 bif (io.le 0 r_.N) then (
 some (io.le r_.N 100)
 ) else (
 some false
 )
 ) else (
 bif (io.eq r_.Kind 3) then (
 bif (io.le 0 r_.N) then (
 bif (io.le r_.N 10000000) then (
 bif (io.le 1 r_.R.Den) then (
 bif (io.le r_.R.Den 1000000) then (
 bif (io.le 0 r_.R.Num) then (
 bif (io.le r_.R.Num (io.ar .mul .i64 1 r_.R.Den)) then (
 bif (io.le r_.R.Num 1000000) then (
 bif (io.le 1 r_.S.Den) then (
 bif (io.le r_.S.Den 1000000) then (
 bif (io.le 0 r_.S.Num) then (
 bif (io.le r_.S.Num (io.ar .mul .i64 1 r_.S.Den)) then (
 some (io.le r_.S.Num 1000000)
 ) else (
 some false
 )
 ) else (
 some false
 )
 ) else (
 some false
 )
 ) else (
 some false
 )
 ) else (
 some false
 )
 ) else (
 some false
 )
 ) else (
 some false
 )
 ) else (
 some false
 )
 ) else (
 some false
 )
 ) else (
 some false
 )
 ) else (
 some false
 )
 ) else (
 bif (io.eq r_.Kind 4) then (
 bif (io.le 1 r_.R.Den) then (
 bif (io.le r_.R.Den 1000000) then (
 bif (io.le 0 r_.R.Num) then (
 bif (io.le r_.R.Num (io.ar .mul .i64 10 r_.R.Den)) then (
 bif (io.le r_.R.Num 1000000) then (
 bif (io.le 1 r_.S.Den) then (
 bif (io.le r_.S.Den 1000000) then (
 bif (io.le 0 r_.S.Num) then (
 bif (io.le r_.S.Num (io.ar .mul .i64 1 r_.S.Den)) then (
 some (io.le r_.S.Num 1000000)
 ) else (
 some false
 )
 ) else (
 some false
 )
 ) else (
 some false
 )
 ) else (
 some false
 )
 ) else (
 some false
 )
 ) else (
 some false
 )
 ) else (
 some false
 )
 ) else (
 some false
 )
 ) else (
 some false
 )
 ) else (
 bif (io.eq r_.Kind 5) then (
 bif (io.le 1 r_.R.Den) then (
 bif (io.le r_.R.Den 1000000) then (
 bif (io.le 0 r_.R.Num) then (
 bif (io.le r_.R.Num (io.ar .mul .i64 1 r_.R.Den)) then (
 some (io.le r_.R.Num 1000000)
 ) else (
 some false
 )
 ) else (
 some false
 )
 ) else (
 some false
 )
 ) else (
 some false
 )
 ) else (
 bif (io.eq r_.Kind 2) then (
 some true
 ) else (
 bif (io.eq r_.Kind 6) then (
 some true
 ) else (
 some (io.eq r_.Kind 7)
 )
 )
 )
 )
 )
 )
end Go.SX.Td
namespace Go.SX.Td
open Go Go.SX Go.Proofs
set_option maxRecDepth 100000
noncomputable def yk0 (x3:Rule)(k6:Int)(v1:(A10 Range)):Int→Option ((Int) ⊕ ((Unit) ⊕ ((Int) ⊕ ((Unit) ⊕ ((Unit) ⊕ ((Int) ⊕ ((Unit) ⊕ (Bool))))))))
 | a7 =>
 bif (io.lt a7 10) then (
 Option.bind (
 Option.bind (zf0 x3.Zones k6) fun x9 =>
 Option.bind (ac0 10 a7) fun i10 =>
 Option.bind (zf0 x3.Zones k6) fun x11 =>
 bif (io.lt (x11.get i10).Hi (x9.get i10).Lo) then (
 some true
 ) else (
 Option.bind (zf0 x3.Zones k6) fun x12 =>
 bif (io.lt (x12.get i10).Lo (v1.get i10).Lo) then (
 some true
 ) else (
 Option.bind (zf0 x3.Zones k6) fun x13 =>
 some (io.lt (v1.get i10).Hi (x13.get i10).Hi)
 )
 )
 ) fun v8 =>
 bif v8 then (
 some (.inr (.inr (.inr (.inr (.inr (.inr (.inr false)))))))
 ) else (
 some (.inl (io.ar .add .i64 a7 1))
 )
 ) else (
 some (.inr (.inl ()))
 )
noncomputable def yv0 (x3:Rule)(v1:(A10 Range)):Int→Option ((Int) ⊕ ((Unit) ⊕ ((Unit) ⊕ ((Int) ⊕ ((Unit) ⊕ (Bool))))))
 | k6 =>
 bif (io.lt k6 (io.len (W qj0 x3.Zones))) then (
 orR (
 qw0 (yk0 x3 k6 v1) 0
 ) fun _ =>
 some (.inl (io.ar .add .i64 k6 1))
 ) else (
 some (.inr (.inl ()))
 )
noncomputable def ww0 (i2:Int)(p:Policy)(x3:Rule):Int→Option ((Int) ⊕ ((Unit) ⊕ ((Int) ⊕ ((Unit) ⊕ (Bool)))))
 | k14 =>
 bif (io.lt k14 i2) then (
 Option.bind (zf0 p.Rules k14) fun x15 =>
 bif (io.seq x15.Name x3.Name) then (
 some (.inr (.inr (.inr (.inr false))))
 ) else (
 some (.inl (io.ar .add .i64 k14 1))
 )
 ) else (
 some (.inr (.inl ()))
 )
noncomputable def jn0 (p:Policy)(v1:(A10 Range)):Int→Option ((Int) ⊕ ((Unit) ⊕ (Bool)))
 | i2 =>
 bif (io.lt i2 (io.len (W qp0 p.Rules))) then (
 orR (
 Option.bind (zf0 p.Rules i2) fun x3 =>
 Option.bind (
 Option.bind (kh0 x3) fun v5 =>
 bif (io.not v5) then (
 some true
 ) else (
 some (io.lt 200 (io.len (W qj0 x3.Zones)))
 )
 ) fun v4 =>
 bif v4 then (
 some (.inr (.inr (.inr false)))
 ) else (
 orR (
 qw0 (yv0 x3 v1) 0
 ) fun _ =>
 qw0 (ww0 i2 p x3) 0
 )
 ) fun _ =>
 some (.inl (io.ar .add .i64 i2 1))
 ) else (
 some (.inr (.inl ()))
 )
noncomputable def vo0 (p:Policy):Option (Bool) :=
 bif (io.lt 200 (io.len (W qp0 p.Rules))) then (
 some false
 ) else (
 Option.bind (zr0) fun v1 =>
 orR (
 qw0 (jn0 p v1) 0
 ) fun _ =>
 some true
 )
end Go.SX.Td
namespace Go.SX.Td
open Go Go.SX Go.Proofs
set_option maxRecDepth 100000
noncomputable def ur0 (l:(List Int))(n:Int):Int→Option ((Int) ⊕ ((Unit) ⊕ (Bool)))
 | i1 =>
 bif (io.lt i1 (io.len (W qq0 l))) then (
 Option.bind (zf0 l i1) fun x2 =>
 bif (io.eq x2 n) then (
 some (.inr (.inr true))
 ) else (
 some (.inl (io.ar .add .i64 i1 1))
 )
 ) else (
 some (.inr (.inl ()))
 )
noncomputable def kk0 (l:(List Int))(n:Int):Option (Bool) :=
 orR (
 qw0 (ur0 l n) 0
 ) fun _ =>
 some false
end Go.SX.Td
namespace Go.SX.Td
open Go Go.SX Go.Proofs
set_option maxRecDepth 100000
noncomputable def jv0 (r_:Rule)(i1:Int)(f:(A10 Int)):(Bool×Int)→Option ((Bool×Int) ⊕ (Bool))
 | (in3,k4) =>
 bif (io.lt k4 10) then (
 Option.bind (
 bif in3 then (
 Option.bind (ac0 10 k4) fun i6 =>
 Option.bind (zf0 r_.Zones i1) fun x7 =>
 bif (io.le (x7.get i6).Lo (f.get i6)) then (
 Option.bind (zf0 r_.Zones i1) fun x8 =>
 some (io.le (f.get i6) (x8.get i6).Hi)
 ) else (
 some false
 )
 ) else (
 some false
 )
 ) fun in5 =>
 some (.inl (in5,(io.ar .add .i64 k4 1)))
 ) else (
 some (.inr in3)
 )
noncomputable def kf0 (r_:Rule)(f:(A10 Int)):Int→Option ((Int) ⊕ ((Unit) ⊕ (Bool)))
 | i1 =>
 bif (io.lt i1 (io.len (W qj0 r_.Zones))) then (
 orR (
 Option.bind (
 qw0 (jv0 r_ i1 f) (true,0)
 ) fun in2 =>
 bif in2 then (
 some (.inr (.inr (.inr true)))
 ) else (
 some (.inl ())
 )
 ) fun _ =>
 some (.inl (io.ar .add .i64 i1 1))
 ) else (
 some (.inr (.inl ()))
 )
noncomputable def ki0 (r_:Rule)(f:(A10 Int)):Option (Bool) :=
 orR (
 qw0 (kf0 r_ f) 0
 ) fun _ =>
 some false
end Go.SX.Td
namespace Go.SX.Td
open Go Go.SX Go.Proofs
set_option maxRecDepth 100000
noncomputable def vw0 (p:Policy)(kind:Int)(f:(A10 Int)):Int→Option ((Int) ⊕ ((Unit) ⊕ (Int)))
 | i1 =>
 bif (io.lt i1 (io.len (W qp0 p.Rules))) then (
 Option.bind (
 Option.bind (zf0 p.Rules i1) fun x3 =>
 bif (io.eq x3.Kind kind) then (
 Option.bind (zf0 p.Rules i1) fun x4 =>
 Option.bind (ki0 x4 f) fun v5 =>
 some v5
 ) else (
 some false
 )
 ) fun v2 =>
 bif v2 then (
 some (.inr (.inr i1))
 ) else (
 some (.inl (io.ar .add .i64 i1 1))
 )
 ) else (
 some (.inr (.inl ()))
 )
noncomputable def wk0 (p:Policy)(f:(A10 Int))(kind:Int):Option (Int) :=
 orR (
 qw0 (vw0 p kind f) 0
 ) fun _ =>
 some (-1)
end Go.SX.Td
namespace Go.SX.Td
open Go Go.SX Go.Proofs
set_option maxRecDepth 100000
noncomputable def jw0 (p:Policy)(f:(A10 Int)):(Int×Int)→Option ((Int×Int) ⊕ (Int))
 | (Limit10,i11) =>
 bif (io.lt i11 (io.len (W qp0 p.Rules))) then (
 Option.bind (
 Option.bind (zf0 p.Rules i11) fun x13 =>
 Option.bind (
 bif (io.eq x13.Kind 1) then (
 Option.bind (ki0 x13 f) fun v15 =>
 bif v15 then (
 bif (io.lt 0 x13.N) then (
 bif (io.eq Limit10 0) then (
 some true
 ) else (
 some (io.lt x13.N Limit10)
 )
 ) else (
 some false
 )
 ) else (
 some false
 )
 ) else (
 some false
 )
 ) fun v14 =>
 bif v14 then (
 some x13.N
 ) else (
 some Limit10
 )
 ) fun Limit12 =>
 some (.inl (Limit12,(io.ar .add .i64 i11 1)))
 ) else (
 some (.inr Limit10)
 )
noncomputable def kx0 (p:Policy)(f:(A10 Int)):Option (Decision) :=
 Option.bind (wk0 p f 1) fun allow1 =>
 Option.bind (wk0 p f 2) fun deny2 =>
 Option.bind (wk0 p f 3) fun price3 =>
 Option.bind (wk0 p f 4) fun resale4 =>
 Option.bind (wk0 p f 5) fun refund5 =>
 Option.bind (
 bif (io.le 0 allow1) then (
 bif (io.le 0 price3) then (
 some (io.lt deny2 0)
 ) else (
 some false
 )
 ) else (
 some false
 )
 ) fun Allowed6 =>
 Option.bind (wk0 p f 6) fun v7 =>
 Option.bind (wk0 p f 7) fun v8 =>
 Option.bind (
 qw0 (jw0 p f) (0,0)
 ) fun Limit9 =>
 Option.bind (
 bif (io.le 0 price3) then (
 Option.bind (zf0 p.Rules price3) fun x21 =>
 Option.bind (zf0 p.Rules price3) fun x22 =>
 Option.bind (zf0 p.Rules price3) fun x23 =>
 some (x21.N,x22.R.Num,x22.R.Den,x23.S.Num,x23.S.Den)
 ) else (
 some (0,0,1,0,1)
 )
 ) fun (Price16,Num17,Den18,Num19,Den20) =>
 Option.bind (
 bif (io.le 0 resale4) then (
 Option.bind (zf0 p.Rules resale4) fun x28 =>
 Option.bind (zf0 p.Rules resale4) fun x29 =>
 some (x28.R.Num,x28.R.Den,x29.S.Num,x29.S.Den)
 ) else (
 some (0,1,0,1)
 )
 ) fun (Num24,Den25,Num26,Den27) =>
 Option.bind (
 bif (io.le 0 refund5) then (
 Option.bind (zf0 p.Rules refund5) fun x32 =>
 some (x32.R.Num,x32.R.Den)
 ) else (
 some (0,1)
 )
 ) fun (Num30,Den31) =>
 Option.bind (
 bif (io.le 0 deny2) then (
 some deny2
 ) else (
 some allow1
 )
 ) fun By33 =>
 some (Decision.mk Allowed6 (io.le 0 v7) (io.le 0 v8) Limit9 Price16 (Ratio.mk Num17 Den18) (Ratio.mk Num19 Den20) (Ratio.mk Num24 Den25) (Ratio.mk Num26 Den27) (Ratio.mk Num30 Den31) By33)
end Go.SX.Td
namespace Go.SX.Td
open Go Go.SX Go.Proofs
set_option maxRecDepth 100000
noncomputable def vd0 (l:(List Int))(n:Int):Int→Option ((Int) ⊕ (Int))
 | at4 =>
 Option.bind (
 bif (io.lt at4 (io.len (W qq0 l))) then (
 Option.bind (zf0 l at4) fun x6 =>
 some (io.lt x6 n)
 ) else (
 some false
 )
 ) fun v5 =>
 bif v5 then (
 some (.inl (io.ar .add .i64 at4 1))
 ) else (
 some (.inr at4)
 )
noncomputable def xh0 (l:(List Int))(n:Int)(limit:Range):Option ((List Int)) :=
 Option.bind (
 bif (io.le n limit.Lo) then (
 some true
 ) else (
 bif (io.lt limit.Hi n) then (
 some true
 ) else (
 Option.bind (kk0 l n) fun v2 =>
 some v2
 )
 )
 ) fun v1 =>
 bif v1 then (
 some l
 ) else (
 Option.bind (
 qw0 (vd0 l n) 0
 ) fun at3 =>
 Option.bind (some ([]:List Int)) fun l7 =>
 Option.bind (cn1 l 0 at3) fun l8 =>
 Option.bind (appG l7 l8) fun out9 =>
 Option.bind (some [n]) fun l10 =>
 Option.bind (appG out9 l10) fun out11 =>
 Option.bind (cn1 l at3 (io.len (W qq0 l))) fun l12 =>
 Option.bind (appG out11 l12) fun l13 =>
 some l13
 )
end Go.SX.Td
namespace Go.SX.Td
open Go Go.SX Go.Proofs
set_option maxRecDepth 100000
noncomputable def pq0 (lv:(List Int))(zones:(List (A10 Range)))(at0:Int)(Lo1:Int)(Hi2:Int):((List Int)×Int)→Option (((List Int)×Int) ⊕ ((List Int)))
 | (out6,i7) =>
 bif (io.lt i7 (io.len (W qq0 lv))) then (
 Option.bind (
 Option.bind (zf0 lv i7) fun x11 =>
 Option.bind (zf0 zones x11) fun x12 =>
 Option.bind (ac0 10 at0) fun i13 =>
 some (i7,(x12.get i13).Lo,(x12.get i13).Hi)
 ) fun (ix8,Lo9,Hi10) =>
 Option.bind (xh0 out6 Lo9 (Range.mk Lo1 Hi2)) fun out14 =>
 Option.bind (xh0 out14 (io.ar .add .i64 Hi10 1) (Range.mk Lo1 Hi2)) fun out15 =>
 some (.inl (out15,(io.ar .add .i64 ix8 1)))
 ) else (
 some (.inr out6)
 )
noncomputable def na0 (rules:(List Rule))(zones:(List (A10 Range)))(at0:Int)(lv:(List Int))(nodes:(List Node))(leaves:(List Decision))(attr:(List Int))(live:(List (List Int)))(made:(List Int))(full:Bool):Option ((List Int)) :=
 Option.bind (
 Option.bind (zr0) fun v3 =>
 Option.bind (ac0 10 at0) fun i4 =>
 some ((v3.get i4).Lo,(v3.get i4).Hi)
 ) fun (Lo1,Hi2) =>
 Option.bind (
 qw0 (pq0 lv zones at0 Lo1 Hi2) ([],0)
 ) fun out5 =>
 some out5
end Go.SX.Td
namespace Go.SX.Td
open Go Go.SX Go.Proofs
set_option maxRecDepth 100000
noncomputable def ft0 (nodes:(List Node))(n:Node)(leaves:(List Decision))(attr:(List Int))(live:(List (List Int)))(made:(List Int))(full:Bool):Int→Option ((Int) ⊕ ((Unit) ⊕ (Int×(List Node)×(List Decision)×(List Int)×(List (List Int))×(List Int)×Bool)))
 | i1 =>
 bif (io.lt i1 (io.len (W qk0 nodes))) then (
 Option.bind (gq0 nodes i1) fun i2 =>
 Option.bind (nodes[i2]?) fun v3 =>
 Option.bind (wh0 v3 n) fun v4 =>
 bif v4 then (
 some (.inr (.inr (i1,nodes,leaves,attr,live,made,full)))
 ) else (
 some (.inl (io.ar .add .i64 i1 1))
 )
 ) else (
 some (.inr (.inl ()))
 )
noncomputable def ak0 (rules:(List Rule))(zones:(List (A10 Range)))(n:Node)(nodes:(List Node))(leaves:(List Decision))(attr:(List Int))(live:(List (List Int)))(made:(List Int))(full:Bool):Option (Int×(List Node)×(List Decision)×(List Int)×(List (List Int))×(List Int)×Bool) :=
 orR (
 qw0 (ft0 nodes n leaves attr live made full) 0
 ) fun _ =>
 Option.bind (some [n]) fun l5 =>
 Option.bind (appG nodes l5) fun l6 =>
 Option.bind (
 bif full then (
 some true
 ) else (
 some (io.lt 20000 (io.len (W qk0 l6)))
 )
 ) fun Full7 =>
 some ((io.ar .sub .i64 (io.len (W qk0 l6)) 1),l6,leaves,attr,live,made,Full7)
end Go.SX.Td
namespace Go.SX.Td
open Go Go.SX Go.Proofs
set_option maxRecDepth 100000
noncomputable def sk0 (leaves:(List Decision))(d:Decision):(Int×Int)→Option ((Int×Int) ⊕ (Int))
 | (at2,i3) =>
 bif (io.lt i3 (io.len (W qz0 leaves))) then (
 Option.bind (
 Option.bind (gq0 leaves i3) fun i5 =>
 Option.bind (leaves[i5]?) fun v6 =>
 bif (jb0 v6 d) then (
 some i3
 ) else (
 some at2
 )
 ) fun at4 =>
 some (.inl (at4,(io.ar .add .i64 i3 1)))
 ) else (
 some (.inr at2)
 )
noncomputable def nn0 (rules:(List Rule))(zones:(List (A10 Range)))(d:Decision)(nodes:(List Node))(leaves:(List Decision))(attr:(List Int))(live:(List (List Int)))(made:(List Int))(full:Bool):Option (Int×(List Node)×(List Decision)×(List Int)×(List (List Int))×(List Int)×Bool) :=
 Option.bind (
 qw0 (sk0 leaves d) ((-1),0)
 ) fun at1 =>
 Option.bind (
 bif (io.lt at1 0) then (
 Option.bind (some [d]) fun l9 =>
 Option.bind (appG leaves l9) fun l10 =>
 some (l10,(io.len (W qz0 leaves)))
 ) else (
 some (leaves,at1)
 )
 ) fun (Leaves7,at8) =>
 Option.bind (ak0 rules zones (Node.mk 0 [] [] at8) nodes Leaves7 attr live made full) fun r11 =>
 some (r11.1,r11.2.1,r11.2.2.1,r11.2.2.2.1,r11.2.2.2.2.1,r11.2.2.2.2.2.1,r11.2.2.2.2.2.2)
end Go.SX.Td
namespace Go.SX.Td
open Go Go.SX Go.Proofs
set_option maxRecDepth 100000
noncomputable def gw0 (live:(List (List Int)))(attr:(List Int))(at0:Int)(lv:(List Int))(made:(List Int))(nodes:(List Node))(leaves:(List Decision))(full:Bool):Int→Option ((Int) ⊕ ((Unit) ⊕ (Int×(List Node)×(List Decision)×(List Int)×(List (List Int))×(List Int)×Bool)))
 | i3 =>
 bif (io.lt i3 (io.len (W qt0 live))) then (
 Option.bind (
 Option.bind (gq0 attr i3) fun i5 =>
 Option.bind (attr[i5]?) fun v6 =>
 bif (io.eq v6 at0) then (
 Option.bind (gq0 live i3) fun i7 =>
 Option.bind (live[i7]?) fun v8 =>
 Option.bind (jm0 v8 lv) fun v9 =>
 some v9
 ) else (
 some false
 )
 ) fun v4 =>
 bif v4 then (
 Option.bind (gq0 made i3) fun i10 =>
 Option.bind (made[i10]?) fun v11 =>
 some (.inr (.inr (v11,nodes,leaves,attr,live,made,full)))
 ) else (
 some (.inl (io.ar .add .i64 i3 1))
 )
 ) else (
 some (.inr (.inl ()))
 )
noncomputable def fk0 (lv:(List Int))(zones:(List (A10 Range)))(at0:Int)(f45:(A10 Int)):(Int×(List Int)×Int)→Option ((Int×(List Int)×Int) ⊕ (Int×(List Int)))
 | (i51,next52,k53) =>
 bif (io.lt k53 (io.len (W qq0 lv))) then (
 Option.bind (
 Option.bind (
 Option.bind (zf0 lv k53) fun x59 =>
 Option.bind (zf0 zones x59) fun x60 =>
 Option.bind (ac0 10 at0) fun i61 =>
 some (i51,(x60.get i61).Lo,(x60.get i61).Hi)
 ) fun (i56,Lo57,Hi58) =>
 Option.bind (
 Option.bind (ac0 10 at0) fun ix64 =>
 bif (io.le Lo57 (f45.get ix64)) then (
 some (i56,(io.le (f45.get ix64) Hi58))
 ) else (
 some (i56,false)
 )
 ) fun (i62,v63) =>
 bif v63 then (
 Option.bind (zf0 lv k53) fun x65 =>
 Option.bind (some [x65]) fun l66 =>
 Option.bind (appG next52 l66) fun next67 =>
 some (i62,next67)
 ) else (
 some (i62,next52)
 )
 ) fun (i54,next55) =>
 some (.inl (i54,next55,(io.ar .add .i64 k53 1)))
 ) else (
 some (.inr (i51,next52))
 )
noncomputable def xu0 (r12:(List Int))(at0:Int)(lv:(List Int))(zones:(List (A10 Range)))(rec:(Int→(List Int)→(A10 Int)→(List Node)→(List Decision)→(List Int)→(List (List Int))→(List Int)→Bool→Option (Int×(List Node)×(List Decision)×(List Int)×(List (List Int))×(List Int)×Bool))):((List Node)×(List Decision)×(List Int)×(List (List Int))×(List Int)×Bool×(A10 Int)×(List Int)×(List Int)×Int)→Option (((List Node)×(List Decision)×(List Int)×(List (List Int))×(List Int)×Bool×(A10 Int)×(List Int)×(List Int)×Int) ⊕ ((List Node)×(List Decision)×(List Int)×(List (List Int))×(List Int)×Bool×(List Int)×(List Int)))
 | (Nodes21,Leaves22,Attr23,Live24,Made25,Full26,f27,Cuts28,Kids29,i30) =>
 bif (io.le i30 (io.len (W qq0 r12))) then (
 Option.bind (
 Option.bind (
 Option.bind (zr0) fun v43 =>
 Option.bind (ac0 10 at0) fun i44 =>
 some ((f27.put i44 (v43.get i44).Lo),i30)
 ) fun (f41,i42) =>
 Option.bind (
 bif (io.lt 0 i42) then (
 Option.bind (zf0 r12 (io.ar .sub .i64 i42 1)) fun x47 =>
 Option.bind (ac0 10 at0) fun i48 =>
 some ((f41.put i48 x47),i42)
 ) else (
 some (f41,i42)
 )
 ) fun (f45,i46) =>
 Option.bind (
 qw0 (fk0 lv zones at0 f45) (i46,[],0)
 ) fun (i49,next50) =>
 Option.bind (
 Option.bind (rec (io.ar .add .i64 at0 1) next50 f45 Nodes21 Leaves22 Attr23 Live24 Made25 Full26) fun r76 =>
 some (r76.2.1,r76.2.2.1,r76.2.2.2.1,r76.2.2.2.2.1,r76.2.2.2.2.2.1,r76.2.2.2.2.2.2,i49,r76.1)
 ) fun (Nodes68,Leaves69,Attr70,Live71,Made72,Full73,i74,kid75) =>
 Option.bind (
 bif (io.lt 0 (io.len (W qq0 Kids29))) then (
 Option.bind (gq0 Kids29 (io.ar .sub .i64 (io.len (W qq0 Kids29)) 1)) fun i79 =>
 Option.bind (Kids29[i79]?) fun v80 =>
 some (i74,(io.eq v80 kid75))
 ) else (
 some (i74,false)
 )
 ) fun (i77,v78) =>
 bif v78 then (
 some (Nodes68,Leaves69,Attr70,Live71,Made72,Full73,f45,Cuts28,Kids29,i77)
 ) else (
 Option.bind (
 bif (io.lt 0 i77) then (
 Option.bind (ac0 10 at0) fun i83 =>
 Option.bind (some [(f45.get i83)]) fun l84 =>
 Option.bind (appG Cuts28 l84) fun l85 =>
 some (l85,i77)
 ) else (
 some (Cuts28,i77)
 )
 ) fun (Cuts81,i82) =>
 Option.bind (some [kid75]) fun l86 =>
 Option.bind (appG Kids29 l86) fun l87 =>
 some (Nodes68,Leaves69,Attr70,Live71,Made72,Full73,f45,Cuts81,l87,i82)
 )
 ) fun (Nodes31,Leaves32,Attr33,Live34,Made35,Full36,f37,Cuts38,Kids39,i40) =>
 some (.inl (Nodes31,Leaves32,Attr33,Live34,Made35,Full36,f37,Cuts38,Kids39,(io.ar .add .i64 i40 1)))
 ) else (
 some (.inr (Nodes21,Leaves22,Attr23,Live24,Made25,Full26,Cuts28,Kids29))
 )
noncomputable def af0 (rules:(List Rule))(zones:(List (A10 Range)))(rec:(Int→(List Int)→(A10 Int)→(List Node)→(List Decision)→(List Int)→(List (List Int))→(List Int)→Bool→Option (Int×(List Node)×(List Decision)×(List Int)×(List (List Int))×(List Int)×Bool)))(at0:Int)(lv:(List Int))(f:(A10 Int))(nodes:(List Node))(leaves:(List Decision))(attr:(List Int))(live:(List (List Int)))(made:(List Int))(full:Bool):Option (Int×(List Node)×(List Decision)×(List Int)×(List (List Int))×(List Int)×Bool) :=
 bif full then (
 some (0,nodes,leaves,attr,live,made,full)
 ) else (
 bif (io.eq at0 10) then (
 Option.bind (kx0 (Policy.mk rules) f) fun v1 =>
 Option.bind (nn0 rules zones v1 nodes leaves attr live made full) fun r2 =>
 some (r2.1,r2.2.1,r2.2.2.1,r2.2.2.2.1,r2.2.2.2.2.1,r2.2.2.2.2.2.1,r2.2.2.2.2.2.2)
 ) else (
 orR (
 qw0 (gw0 live attr at0 lv made nodes leaves full) 0
 ) fun _ =>
 Option.bind (na0 rules zones at0 lv nodes leaves attr live made full) fun r12 =>
 Option.bind (
 qw0 (xu0 r12 at0 lv zones rec) (nodes,leaves,attr,live,made,full,f,[],[],0)
 ) fun (Nodes13,Leaves14,Attr15,Live16,Made17,Full18,Cuts19,Kids20) =>
 Option.bind (gq0 Kids20 0) fun i88 =>
 Option.bind (Kids20[i88]?) fun v89 =>
 Option.bind (
 bif (io.lt 1 (io.len (W qq0 Kids20))) then (
 Option.bind (ak0 rules zones (Node.mk at0 Cuts19 Kids20 0) Nodes13 Leaves14 Attr15 Live16 Made17 Full18) fun r97 =>
 some (r97.2.1,r97.2.2.1,r97.2.2.2.1,r97.2.2.2.2.1,r97.2.2.2.2.2.1,r97.2.2.2.2.2.2,r97.1)
 ) else (
 some (Nodes13,Leaves14,Attr15,Live16,Made17,Full18,v89)
 )
 ) fun (Nodes90,Leaves91,Attr92,Live93,Made94,Full95,made96) =>
 Option.bind (some [at0]) fun l98 =>
 Option.bind (appG Attr92 l98) fun l99 =>
 Option.bind (some [lv]) fun l100 =>
 Option.bind (appG Live93 l100) fun l101 =>
 Option.bind (some [made96]) fun l102 =>
 Option.bind (appG Made94 l102) fun l103 =>
 some (made96,Nodes90,Leaves91,l99,l101,l103,Full95)
 )
 )
noncomputable def iw0 (rules:(List Rule))(zones:(List (A10 Range))):Nat→Int→(List Int)→(A10 Int)→(List Node)→(List Decision)→(List Int)→(List (List Int))→(List Int)→Bool→Option (Int×(List Node)×(List Decision)×(List Int)×(List (List Int))×(List Int)×Bool)
 | 0,_,_,_,_,_,_,_,_,_=>none
 | n+1,at0,lv,f,nodes,leaves,attr,live,made,full=>af0 rules zones (iw0 rules zones n) at0 lv f nodes leaves attr live made full
end Go.SX.Td
namespace Go.SX.Td
open Go Go.SX Go.Proofs
set_option maxRecDepth 100000
noncomputable def sy0 (nodes:(List Node))(at0:Int)(rec:(Int→(List Int)→Option ((List Int)))):((List Int)×Int)→Option (((List Int)×Int) ⊕ ((List Int)))
 | (order5,i6) =>
 Option.bind (zf0 nodes at0) fun x7 =>
 bif (io.lt i6 (io.len (W qq0 x7.Kids))) then (
 Option.bind (
 Option.bind (zf0 nodes at0) fun x9 =>
 Option.bind (zf0 x9.Kids i6) fun x10 =>
 Option.bind (rec x10 order5) fun r11 =>
 some r11
 ) fun order8 =>
 some (.inl (order8,(io.ar .add .i64 i6 1)))
 ) else (
 some (.inr order5)
 )
noncomputable def by0 (nodes:(List Node))(leaves:(List Decision))(rec:(Int→(List Int)→Option ((List Int))))(at0:Int)(order:(List Int)):Option ((List Int)) :=
 Option.bind (kk0 order at0) fun v1 =>
 bif v1 then (
 some order
 ) else (
 Option.bind (some [at0]) fun l2 =>
 Option.bind (appG order l2) fun order3 =>
 Option.bind (
 qw0 (sy0 nodes at0 rec) (order3,0)
 ) fun order4 =>
 some order4
 )
noncomputable def iv0 (nodes:(List Node))(leaves:(List Decision)):Nat→Int→(List Int)→Option ((List Int))
 | 0,_,_=>none
 | n+1,at0,order=>by0 nodes leaves (iv0 nodes leaves n) at0 order
end Go.SX.Td
namespace Go.SX.Td
open Go Go.SX Go.Proofs
set_option maxRecDepth 100000
noncomputable def jx0 (p:Policy)(i6:Int):((List (A10 Range))×(List Int)×Int)→Option (((List (A10 Range))×(List Int)×Int) ⊕ ((List (A10 Range))×(List Int)))
 | (Zones9,live10,k11) =>
 Option.bind (zf0 p.Rules i6) fun x12 =>
 bif (io.lt k11 (io.len (W qj0 x12.Zones))) then (
 Option.bind (some [(io.len (W qj0 Zones9))]) fun l13 =>
 Option.bind (appG live10 l13) fun live14 =>
 Option.bind (zf0 p.Rules i6) fun x15 =>
 Option.bind (zf0 x15.Zones k11) fun x16 =>
 Option.bind (some [x16]) fun l17 =>
 Option.bind (appG Zones9 l17) fun l18 =>
 some (.inl (l18,live14,(io.ar .add .i64 k11 1)))
 ) else (
 some (.inr (Zones9,live10))
 )
noncomputable def jk0 (p:Policy):((List (A10 Range))×(List Int)×Int)→Option (((List (A10 Range))×(List Int)×Int) ⊕ ((List (A10 Range))×(List Int)))
 | (Zones4,live5,i6) =>
 bif (io.lt i6 (io.len (W qp0 p.Rules))) then (
 Option.bind (
 qw0 (jx0 p i6) (Zones4,live5,0)
 ) fun (Zones7,live8) =>
 some (.inl (Zones7,live8,(io.ar .add .i64 i6 1)))
 ) else (
 some (.inr (Zones4,live5))
 )
noncomputable def jj0 (Nodes19:(List Node))(root25:Int)(Leaves20:(List Decision)):((List Int)×Int)→Option (((List Int)×Int) ⊕ ((List Int)))
 | (order32,i33) =>
 Option.bind (zf0 Nodes19 root25) fun x34 =>
 bif (io.lt i33 (io.len (W qq0 x34.Kids))) then (
 Option.bind (
 Option.bind (zf0 Nodes19 root25) fun x36 =>
 Option.bind (zf0 x36.Kids i33) fun x37 =>
 Option.bind (iv0 Nodes19 Leaves20 61 x37 order32) fun r38 =>
 some r38
 ) fun order35 =>
 some (.inl (order35,(io.ar .add .i64 i33 1)))
 ) else (
 some (.inr order32)
 )
noncomputable def jz0 (order27:(List Int)):((List Int)×Int)→Option (((List Int)×Int) ⊕ ((List Int)))
 | (number41,i42) =>
 bif (io.lt i42 (io.len (W qq0 order27))) then (
 Option.bind (gq0 order27 i42) fun i43 =>
 Option.bind (order27[i43]?) fun v44 =>
 Option.bind (gq0 number41 v44) fun i45 =>
 Option.bind (cp1 number41 i45 fun y46=>i42) fun l47 =>
 some (.inl (l47,(io.ar .add .i64 i42 1)))
 ) else (
 some (.inr number41)
 )
noncomputable def yu0 (x57:Node)(number40:(List Int)):((List Int)×Int)→Option (((List Int)×Int) ⊕ ((List Int)))
 | (kids59,k60) =>
 bif (io.lt k60 (io.len (W qq0 x57.Kids))) then (
 Option.bind (zf0 x57.Kids k60) fun x61 =>
 Option.bind (gq0 number40 x61) fun i62 =>
 Option.bind (number40[i62]?) fun v63 =>
 Option.bind (some [v63]) fun l64 =>
 Option.bind (appG kids59 l64) fun kids65 =>
 some (.inl (kids65,(io.ar .add .i64 k60 1)))
 ) else (
 some (.inr kids59)
 )
noncomputable def jq0 (order27:(List Int))(Nodes19:(List Node))(number40:(List Int))(Leaves20:(List Decision)):((List Node)×(List Decision)×Int)→Option (((List Node)×(List Decision)×Int) ⊕ ((List Node)×(List Decision)))
 | (Nodes50,Leaves51,i52) =>
 bif (io.lt i52 (io.len (W qq0 order27))) then (
 Option.bind (
 Option.bind (gq0 order27 i52) fun i55 =>
 Option.bind (order27[i55]?) fun v56 =>
 Option.bind (zf0 Nodes19 v56) fun x57 =>
 Option.bind (
 qw0 (yu0 x57 number40) ([],0)
 ) fun kids58 =>
 Option.bind (
 bif (io.eq (io.len (W qq0 kids58)) 0) then (
 Option.bind (zf0 Leaves20 x57.Leaf) fun x68 =>
 Option.bind (some [x68]) fun l69 =>
 Option.bind (appG Leaves51 l69) fun l70 =>
 some (l70,(io.ar .sub .i64 (io.len (W qz0 l70)) 1))
 ) else (
 some (Leaves51,x57.Leaf)
 )
 ) fun (Leaves66,Leaf67) =>
 Option.bind (some [(Node.mk x57.Attr x57.Cuts kids58 Leaf67)]) fun l71 =>
 Option.bind (appG Nodes50 l71) fun l72 =>
 some (l72,Leaves66)
 ) fun (Nodes53,Leaves54) =>
 some (.inl (Nodes53,Leaves54,(io.ar .add .i64 i52 1)))
 ) else (
 some (.inr (Nodes50,Leaves51))
 )
noncomputable def jd0 (p:Policy):Option (Table×Int) :=
 Option.bind (vo0 p) fun v1 =>
 bif (io.not v1) then (
 some ((Table.mk [] []),1)
 ) else (
 Option.bind (
 qw0 (jk0 p) ([],[],0)
 ) fun (Zones2,live3) =>
 Option.bind (
 Option.bind (iw0 p.Rules Zones2 11 0 live3 (A10.mk 0 0 0 0 0 0 0 0 0 0) ([]:(List Node)) ([]:(List Decision)) ([]:(List Int)) ([]:(List (List Int))) ([]:(List Int)) false) fun r26 =>
 some (r26.2.1,r26.2.2.1,r26.2.2.2.1,r26.2.2.2.2.1,r26.2.2.2.2.2.1,r26.2.2.2.2.2.2,r26.1)
 ) fun (Nodes19,Leaves20,Attr21,Live22,Made23,Full24,root25) =>
 bif Full24 then (
 some ((Table.mk [] []),3)
 ) else (
 Option.bind (
 Option.bind (kk0 [] root25) fun v28 =>
 bif v28 then (
 some []
 ) else (
 Option.bind (some [root25]) fun l29 =>
 Option.bind (appG ([]:List Int) l29) fun l30 =>
 Option.bind (
 qw0 (jj0 Nodes19 root25 Leaves20) (l30,0)
 ) fun order31 =>
 some order31
 )
 ) fun order27 =>
 Option.bind (cu1 (io.len (W qk0 Nodes19)) (0:Int)) fun l39 =>
 Option.bind (
 qw0 (jz0 order27) (l39,0)
 ) fun number40 =>
 Option.bind (
 qw0 (jq0 order27 Nodes19 number40 Leaves20) ([],[],0)
 ) fun (Nodes48,Leaves49) =>
 some ((Table.mk Nodes48 Leaves49),0)
 )
 )
end Go.SX.Td
