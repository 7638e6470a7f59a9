/- Parts of the proof. -/
import Derived.Test.YtllbabjgpdmblaaGreatDoorZTdT
set_option linter.unusedSimpArgs false
set_option linter.unusedVariables false
set_option linter.unusedSectionVars false
namespace Go.SX.Td
open Go Go.SX Go.Proofs
set_option maxRecDepth 100000
noncomputable def zo0 : Option ((A10 Range)) :=
 some (A10.mk (Range.mk 0 1000000000) (Range.mk 0 150) (Range.mk 0 1) (Range.mk 0 19) (Range.mk 0 7) (Range.mk 0 319) (Range.mk 0 3) (Range.mk 0 3) (Range.mk 1 12) (Range.mk 0 100))
end Go.SX.Td
namespace Go.SX.Td
open Go Go.SX Go.Proofs
set_option maxRecDepth 100000
noncomputable def zx0 (n:Node)(Hi3:Int):(Int×Int)→Option ((Int×Int) ⊕ ((Unit) ⊕ (Bool)))
 | (Lo6,v7) =>
 bif (io.lt v7 (io.len (W qq0 n.Cuts))) then (
 Option.bind (zf0 n.Cuts v7) fun x8 =>
 Option.bind (
 bif (io.le x8 Lo6) then (
 some true
 ) else (
 some (io.lt Hi3 x8)
 )
 ) fun v9 =>
 bif v9 then (
 some (.inr (.inr false))
 ) else (
 some (.inl (x8,(io.ar .add .i64 v7 1)))
 )
 ) else (
 some (.inr (.inl ()))
 )
noncomputable def zp0 (n:Node)(t_:Table):Int→Option ((Int) ⊕ ((Unit) ⊕ (Bool)))
 | v10 =>
 bif (io.lt v10 (io.len (W qq0 n.Kids))) then (
 Option.bind (zf0 n.Kids v10) fun x11 =>
 Option.bind (
 bif (io.lt x11 0) then (
 some true
 ) else (
 bif (io.le (io.len (W qk0 t_.Nodes)) x11) then (
 some true
 ) else (
 bif (io.lt 0 v10) then (
 Option.bind (zf0 n.Kids (io.ar .sub .i64 v10 1)) fun x13 =>
 bif (io.eq x13 x11) then (
 some true
 ) else (
 Option.bind (zf0 t_.Nodes x11) fun x14 =>
 bif (io.lt 0 (io.len (W qq0 x14.Kids))) then (
 Option.bind (zf0 t_.Nodes x11) fun x15 =>
 some (io.le x15.Attr n.Attr)
 ) else (
 some false
 )
 )
 ) else (
 Option.bind (zf0 t_.Nodes x11) fun x16 =>
 bif (io.lt 0 (io.len (W qq0 x16.Kids))) then (
 Option.bind (zf0 t_.Nodes x11) fun x17 =>
 some (io.le x17.Attr n.Attr)
 ) else (
 some false
 )
 )
 )
 )
 ) fun v12 =>
 bif v12 then (
 some (.inr (.inr false))
 ) else (
 some (.inl (io.ar .add .i64 v10 1))
 )
 ) else (
 some (.inr (.inl ()))
 )
noncomputable def wx0 (t_:Table)(n:Node):Option (Bool) :=
 bif (io.eq (io.len (W qq0 n.Kids)) 0) then (
 bif (io.eq (io.len (W qq0 n.Cuts)) 0) then (
 bif (io.eq n.Attr 0) then (
 bif (io.le 0 n.Leaf) then (
 some (io.lt n.Leaf (io.len (W qz0 t_.Leaves)))
 ) else (
 some false
 )
 ) else (
 some false
 )
 ) else (
 some false
 )
 ) else (
 Option.bind (
 bif (io.lt n.Attr 0) then (
 some true
 ) else (
 bif (io.le 10 n.Attr) then (
 some true
 ) else (
 bif (io.not (io.eq n.Leaf 0)) then (
 some true
 ) else (
 bif (io.eq (io.len (W qq0 n.Cuts)) 0) then (
 some true
 ) else (
 some (io.not (io.eq (io.len (W qq0 n.Kids)) (io.ar .add .i64 (io.len (W qq0 n.Cuts)) 1)))
 )
 )
 )
 )
 ) fun v1 =>
 bif v1 then (
 some false
 ) else (
 Option.bind (
 Option.bind (zo0) fun v4 =>
 Option.bind (ac0 10 n.Attr) fun i5 =>
 some ((v4.get i5).Lo,(v4.get i5).Hi)
 ) fun (Lo2,Hi3) =>
 orR (
 qw0 (zx0 n Hi3) (Lo2,0)
 ) fun _ =>
 orR (
 qw0 (zp0 n t_) 0
 ) fun _ =>
 some true
 )
 )
end Go.SX.Td
namespace Go.SX.Td
open Go Go.SX Go.Proofs
set_option maxRecDepth 100000
noncomputable def pz0 (x4:Node)(rec:(Int→(List (Int×Bool))→Int→Option ((List (Int×Bool))×Int))):((List (Int×Bool))×Int×Int)→Option (((List (Int×Bool))×Int×Int) ⊕ ((List (Int×Bool))×Int))
 | (own5,c6,v7) =>
  bif (io.lt v7 (io.len (W qq0 x4.Kids))) then (
   Option.bind (
    Option.bind (zf0 x4.Kids v7) fun x10 =>
    Option.bind (rec x10 own5 c6) fun r11 =>
    some (r11.1,r11.2)
    ) fun (own8,c9) =>
   some (.inl (own8,c9,(io.ar .add .i64 v7 1)))
  ) else (
   some (.inr (own5,c6))
  )
noncomputable def lm0 (nodes:(List Node))(rec:(Int→(List (Int×Bool))→Int→Option ((List (Int×Bool))×Int)))(at0:Int)(seen:(List (Int×Bool)))(nxt:Int):Option ((List (Int×Bool))×Int) :=
 Option.bind (some (wc0 seen at0 false)) fun y1 =>
 bif y1 then (
  some (seen,nxt)
 ) else (
  Option.bind (some (ku0 seen at0 true)) fun m2 =>
  Option.bind (
   bif (io.eq at0 nxt) then (
    some (io.ar .add .i64 nxt 1)
   ) else (
    some nxt
   )
   ) fun c3 =>
  Option.bind (zf0 nodes at0) fun x4 =>
  qw0 (pz0 x4 rec) (m2,c3,0)
 )
noncomputable def yp1 (nodes:(List Node)):Nat→Int→(List (Int×Bool))→Int→Option ((List (Int×Bool))×Int)
 | 0,_,_,_=>none
 | n+1,at0,seen,nxt=>lm0 nodes (yp1 nodes n) at0 seen nxt
end Go.SX.Td
namespace Go.SX.Td
open Go Go.SX Go.Proofs
set_option maxRecDepth 100000
def ub3 : List GOp:=gS 0 [.alloc 54 (.agg #[oz,oz,oz,oz,oz,oz,oz,oz,oz,oz,oz,oz,oz,oz,oz,oz,oz,oz,oz,oz])]
def uy3 : List GOp:=gS 1 [.build (.agg #[oz,oz]) [((1,1),(ci 1000000000))],.build (.agg #[oz,oz]) [((1,1),(ci 150))],.build (.agg #[oz,oz]) [((1,1),(ci 1))],.build (.agg #[oz,oz]) [((1,1),(ci 19))],.build (.agg #[oz,oz]) [((1,1),(ci 7))],.build (.agg #[oz,oz]) [((1,1),(ci 319))],.build (.agg #[oz,oz]) [((1,1),(ci 3))],.build (.agg #[oz,oz]) [((1,1),(ci 3))],.build (.agg #[oz,oz]) [((0,1),(ci 1)),((1,1),(ci 12))],.build (.agg #[oz,oz]) [((1,1),(ci 100))],.build (.agg #[oz,oz,oz,oz,oz,oz,oz,oz,oz,oz,oz,oz,oz,oz,oz,oz,oz,oz,oz,oz]) [((0,2),1),((2,2),2),((4,2),3),((6,2),4),((8,2),5),((10,2),6),((12,2),7),((14,2),8),((16,2),9),((18,2),10)]]++[⟨none,.store 20 0 11,none⟩]
def c23 : EFn:=⟨12,.seq (.reg ub3) (.seq (.reg uy3) (.ret)),[.cell 0 20 true]⟩
theorem sb2 : zv0 Tryz.prog 23=some c23.er:=by kernel_rfl
set_option maxHeartbeats 4000000 in
theorem js0 {P:Program}(hP:P=Tryz.prog)(r:(A10 Range))(h:zo0=some r):Fn1 P 23 [] (dy0 r):=by
 refine .vz0 (hP▸sb2) fun K hK=>?_;unfold zo0 at h;cbv;obtain rfl:=oj h;exact hK _ _ aw_
end Go.SX.Td
namespace Go.SX.Td
open Go Go.SX Go.Proofs
set_option maxRecDepth 100000
def kk3 : List GOp:=gS 2 [.box 28 0,.box 50 1,.mv (cB false)]
def kx3 : List GOp:=gS 10 [.fadd 2 3,.load 1 false 10,.len false 11,.bin .eql 12 (ci 0)]
def kj3 : List GOp:=gS 14 [.fadd 1 3,.load 1 false 14,.len false 15,.bin .eql 16 (ci 0),.mv 17]++gQ 18 true 19 [.fadd 0 3,.load 1 false 19,.bin .eql 20 (ci 0)]++gS 22 [.pick 18 21 (cB false),.mv 22]++gQ 23 true 24 [.fadd 3 3,.load 1 false 24,.bin .geq 25 (ci 0)]++gS 27 [.pick 23 26 (cB false),.mv 27]++gQ 28 true 29 [.fadd 3 3,.load 1 false 29,.fadd 1 2,.load 1 false 31,.len false 32,.bin .lss 30 33]++gS 35 [.pick 28 34 (cB false)]++gS 4 [.mv 35]
def kz3 : List GOp:=gS 36 [.fadd 0 3,.load 1 false 36,.bin .lss 37 (ci 0),.mv 38]++gQ 39 false 40 [.fadd 0 3,.load 1 false 40,.bin .geq 41 (ci 10)]++gS 43 [.pick 39 (cB true) 42,.mv 43]++gQ 44 false 45 [.fadd 3 3,.load 1 false 45,.bin .neq 46 (ci 0)]++gS 48 [.pick 44 (cB true) 47,.mv 48]++gQ 49 false 50 [.fadd 1 3,.load 1 false 50,.len false 51,.bin .eql 52 (ci 0)]++gS 54 [.pick 49 (cB true) 53,.mv 54]++gQ 55 false 56 [.fadd 2 3,.load 1 false 56,.len false 57,.fadd 1 3,.load 1 false 59,.len false 60,.bin .add 61 (ci 1),.bin .neq 58 62]++gS 64 [.pick 55 (cB true) 63]
def kq3 : List GOp:=gS 4 [.mv (cB false)]
def ju3 : List GOp:=gS 65 [.call 23 [],.fadd 0 3,.load 1 false 66,.idxV 10 2 true 65 67]++gS 5 [.alloc 52 (.agg #[oz,oz])]++[⟨none,.store 2 5 68,none⟩]
def jo3 : List GOp:=gS 69 [.fadd 1 3,.load 1 false 69,.len false 70,.mv (ci 0)]
def ji3 : List GOp:=gS 73 [.bin .lss 72 71]
def je3 : List GOp:=gS 74 [.idxA 1 70 72,.load 1 false 74]++gS 7 [.mv 75]
def ja3 : List GOp:=gS 76 [.mv 7,.fadd 0 5,.load 1 false 77,.bin .leq 76 78,.mv 79]++gQ 80 false 81 [.mv 7,.fadd 1 5,.load 1 false 82,.bin .gtr 81 83]++gS 85 [.pick 80 (cB true) 84]
def vr2 : List GOp:=gS 4 [.mv (cB false)]
def vn2 : List GOp:=gS 86 [.mv 7,.fadd 0 5]++[⟨none,.store 1 87 86,none⟩]
def vt2 : List GOp:=gS 88 [.bin .add 72 (ci 1)]++gS 72 [.mv 88]
def ve2 : DE:=.seq (.reg ji3) (.seq (.cond 73 (.skip) (.exit 0)) (.seq (.block 1 (.seq (.reg je3) (.seq (.join (.reg ja3) (.cond 85 (.seq (.reg vr2) (.ret)) (.skip))) (.reg vn2)))) (.reg vt2)))
def vl2 : List GOp:=gS 89 [.fadd 2 3,.load 1 false 89,.len false 90,.mv (ci 0)]
def vd2 : List GOp:=gS 93 [.bin .lss 92 91]
def vc2 : List GOp:=gS 94 [.mv 92,.idxA 1 90 92,.load 1 false 95]++gS 8 [.mv 94,.mv 96]
def vm2 : List GOp:=gS 97 [.mv 9,.bin .lss 97 (ci 0),.mv 98]++gQ 99 false 100 [.mv 9,.fadd 0 2,.load 1 false 101,.len false 102,.bin .geq 100 103]++gS 105 [.pick 99 (cB true) 104,.mv 105]++gQ 106 false 107 [.mv 8,.bin .gtr 107 (ci 0),.mv 108]++gQ 109 true 110 [.fadd 2 3,.load 1 false 110,.mv 8,.bin .sub 112 (ci 1),.idxA 1 111 113,.load 1 false 114,.mv 9,.bin .eql 115 116]++gQ 106 false 118 [.pick 109 117 (cB false)]++gS 119 [.pick 106 (cB true) 118,.mv 119]++gQ 120 false 121 [.fadd 0 2,.load 1 false 121,.mv 9,.idxA 4 122 123,.fadd 2 124,.load 1 false 125,.len false 126,.bin .gtr 127 (ci 0),.mv 128]++gQ 129 true 130 [.fadd 0 2,.load 1 false 130,.mv 9,.idxA 4 131 132,.fadd 0 133,.load 1 false 134,.fadd 0 3,.load 1 false 136,.bin .leq 135 137]++gQ 120 false 139 [.pick 129 138 (cB false)]++gS 140 [.pick 120 (cB true) 139]
def vf2 : List GOp:=gS 4 [.mv (cB false)]
def vh2 : List GOp:=gS 141 [.bin .add 92 (ci 1)]++gS 92 [.mv 141]
def va2 : DE:=.seq (.reg vd2) (.seq (.cond 93 (.skip) (.exit 2)) (.seq (.block 3 (.seq (.reg vc2) (.join (.par true true true 41 vm2) (.cond 140 (.seq (.reg vf2) (.ret)) (.skip))))) (.reg vh2)))
def vp2 : List GOp:=gS 4 [.mv (cB true)]
def c39 : EFn:=⟨142,.seq (.reg kk3) (.seq (.seq (.reg kx3) (.cond 13 (.seq (.reg kj3) (.ret)) (.skip))) (.seq (.join (.reg kz3) (.cond 64 (.seq (.reg kq3) (.ret)) (.skip))) (.join (.par false false false 5 ju3) (.join (.seq (.reg jo3) (.block 0 (.loop ve2))) (.join (.seq (.reg vl2) (.block 2 (.loop va2))) (.seq (.reg vp2) (.ret))))))),[.tmp 4]⟩
theorem vi2 : zv0 Tryz.prog 39=some c39.er:=by kernel_rfl
set_option maxHeartbeats 4000000 in
theorem ts0 {P:Program}(hP:P=Tryz.prog)(t_:Table)(n:Node)(r:Bool)(h:wx0 t_ n=some r):Fn1 P 39 [uc0 t_,bz1 n] (vB r):=by
 refine .vz0 (hP▸vi2) fun K hK=>?_;unfold wx0 at h;cbv;refine qf0 h ?_ ?_<;>intro h
 ·cbv;refine qf0 h ?_ ?_<;>intro h
  ·cbv;refine qf0 h ?_ ?_<;>intro h
   ·cbv;refine qf0 h ?_ ?_<;>intro h
    ·cbv;obtain rfl:=oj h;exact hK _ _ aw_
    ·cbv;obtain rfl:=oj h;exact hK _ _ aw_
   ·cbv;obtain rfl:=oj h;exact hK _ _ aw_
  ·cbv;obtain rfl:=oj h;exact hK _ _ aw_
 ·cbv;refine .g h (fun (v1:Bool)=>[.top,.top,.ptr 0 0,.ptr 1 0]++rp 60 .top++[ob v1]++rp 77 .top) (fun v1=>[.cells [dq qk0 t_.Nodes,dq qz0 t_.Leaves] 28,.cells [oi n.Attr,dq qq0 n.Cuts,dq qq0 n.Kids,oi n.Leaf] 50]) (fun y hm Kn1 hKn1=>?_) fun t h=>?_
  ·have h:=hm;clear hm;cbv;refine qf0 h ?_ ?_<;>intro h
   ·cbv;obtain rfl:=oj h;exact hKn1 _ _ _ rfl (.nz (.mtE [0,1] mx))
   ·cbv;refine qf0 h ?_ ?_<;>intro h
    ·cbv;obtain rfl:=oj h;exact hKn1 _ _ _ rfl (.nz (.mtE [0,1] mx))
    ·cbv;refine qf0 h ?_ ?_<;>intro h
     ·cbv;obtain rfl:=oj h;exact hKn1 _ _ _ rfl (.nz (.mtE [0,1] mx))
     ·cbv;refine qf0 h ?_ ?_<;>intro h
      ·cbv;obtain rfl:=oj h;exact hKn1 _ _ _ rfl (.nz (.mtE [0,1] mx))
      ·cbv;obtain rfl:=oj h;exact hKn1 _ _ _ rfl (.nz (.mtE [0,1] mx))
  obtain⟨v1,rfl⟩:=ez t;cbv;refine qf0 h ?_ ?_<;>intro h
  ·cbv;obtain rfl:=oj h;exact hK _ _ aw_
  ·cbv;refine .g h (fun ((Lo2,Hi3):Int×Int)=>[.top,.top,.ptr 0 0,.ptr 1 0,.top,.ptr 2 0]++rp 136 .top) (fun (Lo2,Hi3)=>[.cells [dq qk0 t_.Nodes,dq qz0 t_.Leaves] 28,.cells [oi n.Attr,dq qq0 n.Cuts,dq qq0 n.Kids,oi n.Leaf] 50,.cells [oi Lo2,oi Hi3] 52]) (fun y hm Kn1 hKn1=>?_) fun t h=>?_
   ·have h:=hm;clear hm;cbv;refine .g h (fun v hv=>js0 hP v hv) aw_ rfl (fun _=>rfl) fun v4 h=>?_;cbv
    refine .c10 h ?_ ?_ ?_ ?_ ?_ ?_ ?_ ?_ ?_ ?_<;>(
     intro hni5 h;cbv;obtain rfl:=oj h;exact hKn1 _ _ _ rfl (.nz (.mtE [0,1,2] mx))
     )
   obtain⟨Lo2,Hi3⟩:=t;cbv;refine .ga h (fun (_:Unit)=>[.top,.top,.ptr 0 0,.ptr 1 0]++rp 138 .top) (fun _=>[.cells [dq qk0 t_.Nodes,dq qz0 t_.Leaves] 28,.cells [oi n.Attr,dq qq0 n.Cuts,dq qq0 n.Kids,oi n.Leaf] 50]) (fun y hm hr1 Kn1 hKn1=>?_) fun t h=>?_
   ·have h:=hm;clear hm;cbv;refine .g h (fun ((Lo6,v7):Int×Int)=>[.top,.top,.ptr 0 0,.ptr 1 0,.top,.ptr 2 0]++rp 64 .top++[dq qq0 n.Cuts,oi (io.len (W qq0 n.Cuts)),oi v7]++rp 69 .top) (fun (Lo6,v7)=>[.cells [dq qk0 t_.Nodes,dq qz0 t_.Leaves] 28,.cells [oi n.Attr,dq qq0 n.Cuts,dq qq0 n.Kids,oi n.Leaf] 50,.cells [oi Lo6,oi Hi3] 52]) (.nz (.mtE [0,1,2] ?_)) fun s x h hr2 Kn2 hKn2=>?_
    ·exact mx
    unfold zx0 at h;obtain⟨Lo6,v7⟩:=s;cbv;refine qf0 h ?_ ?_<;>intro h
    ·cbv;refine .g h (fun _=>rfl) fun x8 h=>?_;cbv;refine .g h (fun (v9:Bool)=>[.top,.top,.ptr 0 0,.ptr 1 0,.top,.ptr 2 0,.top,oi x8]++rp 62 .top++[dq qq0 n.Cuts,oi (io.len (W qq0 n.Cuts)),oi v7]++rp 12 .top++[ob v9]++rp 56 .top) (fun v9=>[.cells [dq qk0 t_.Nodes,dq qz0 t_.Leaves] 28,.cells [oi n.Attr,dq qq0 n.Cuts,dq qq0 n.Kids,oi n.Leaf] 50,.cells [oi Lo6,oi Hi3] 52]) (fun y hm Kn3 hKn3=>?_) fun t h=>?_
     ·have h:=hm;clear hm;cbv;refine qf0 h ?_ ?_<;>intro h
      ·cbv;obtain rfl:=oj h;exact hKn3 _ _ _ rfl (.nz (.mtE [0,1,2] mx))
      ·cbv;obtain rfl:=oj h;exact hKn3 _ _ _ rfl (.nz (.mtE [0,1,2] mx))
     obtain⟨v9,rfl⟩:=ez t;cbv;refine qf0 h ?_ ?_<;>intro h
     ·cbv;obtain rfl:=oj h;obtain rfl:=hr2 _ rfl;obtain rfl:=hr1 _ rfl;exact hK _ _ aw_
     ·cbv;obtain rfl:=oj h;exact hKn2 _ _ _ rfl (.nz (.mtE [0,1,2] mx))
    ·cbv;obtain rfl:=oj h;obtain rfl:=hr2 _ rfl;exact hKn1 _ _ _ rfl (.nz (.mtE [0,1] mx))
   cbv;refine .ga h (fun (_:Unit)=>rp 142 .top) (fun _=>[]) (fun y hm hr1 Kn1 hKn1=>?_) fun t h=>?_
   ·have h:=hm;clear hm;cbv;refine .g h (fun (v10:Int)=>[.top,.top,.ptr 0 0,.ptr 1 0]++rp 86 .top++[dq qq0 n.Kids,oi (io.len (W qq0 n.Kids)),oi v10]++rp 49 .top) (fun v10=>[.cells [dq qk0 t_.Nodes,dq qz0 t_.Leaves] 28,.cells [oi n.Attr,dq qq0 n.Cuts,dq qq0 n.Kids,oi n.Leaf] 50]) (.nz (.mtE [0,1] ?_)) fun s x h hr2 Kn2 hKn2=>?_
    ·exact mx
    unfold zp0 at h;obtain⟨v10,rfl⟩:=ez s;cbv;refine qf0 h ?_ ?_<;>intro h
    ·cbv;refine .g h (fun _=>rfl) fun x11 h=>?_;cbv;refine .g h (fun (v12:Bool)=>[.top,.top,.ptr 0 0,.ptr 1 0]++rp 86 .top++[dq qq0 n.Kids,oi (io.len (W qq0 n.Kids)),oi v10]++rp 47 .top++[ob v12,.top]) (fun v12=>[.cells [dq qk0 t_.Nodes,dq qz0 t_.Leaves] 28,.cells [oi n.Attr,dq qq0 n.Cuts,dq qq0 n.Kids,oi n.Leaf] 50]) (fun y hm Kn3 hKn3=>?_) fun t h=>?_
     ·have h:=hm;clear hm;cbv;refine qf0 h ?_ ?_<;>intro h
      ·cbv;obtain rfl:=oj h;exact hKn3 _ _ _ rfl (.nz (.mtE [0,1] mx))
      ·cbv;refine qf0 h ?_ ?_<;>intro h
       ·cbv;obtain rfl:=oj h;exact hKn3 _ _ _ rfl (.nz (.mtE [0,1] mx))
       ·cbv;refine qf0 h ?_ ?_<;>intro h
        ·cbv;refine .g h (fun _=>rfl) fun x13 h=>?_;cbv;refine qf0 h ?_ ?_<;>intro h
         ·cbv;obtain rfl:=oj h;exact hKn3 _ _ _ rfl (.nz (.mtE [0,1] mx))
         ·cbv;refine .g h (fun _=>rfl) fun x14 h=>?_;cbv;refine qf0 h ?_ ?_<;>intro h
          ·cbv;refine .g h (fun _=>rfl) fun x15 h=>?_;cbv;obtain rfl:=oj h;exact hKn3 _ _ _ rfl (.nz (.mtE [0,1] mx))
          ·cbv;obtain rfl:=oj h;exact hKn3 _ _ _ rfl (.nz (.mtE [0,1] mx))
        ·cbv;refine .g h (fun _=>rfl) fun x16 h=>?_;cbv;refine qf0 h ?_ ?_<;>intro h
         ·cbv;refine .g h (fun _=>rfl) fun x17 h=>?_;cbv;obtain rfl:=oj h;exact hKn3 _ _ _ rfl (.nz (.mtE [0,1] mx))
         ·cbv;obtain rfl:=oj h;exact hKn3 _ _ _ rfl (.nz (.mtE [0,1] mx))
     obtain⟨v12,rfl⟩:=ez t;cbv;refine qf0 h ?_ ?_<;>intro h
     ·cbv;obtain rfl:=oj h;obtain rfl:=hr2 _ rfl;obtain rfl:=hr1 _ rfl;exact hK _ _ aw_
     ·cbv;obtain rfl:=oj h;exact hKn2 _ _ _ rfl (.nz (.mtE [0,1] mx))
    ·cbv;obtain rfl:=oj h;obtain rfl:=hr2 _ rfl;exact hKn1 _ _ _ rfl (.nz (.mtE [] mx))
   cbv;obtain rfl:=oj h;exact hK _ _ aw_
end Go.SX.Td
namespace Go.SX.Td
open Go Go.SX Go.Proofs
set_option maxRecDepth 100000
def jd3 : List GOp:=[⟨(some 3),.mv 0,none⟩,⟨(some 4),.load 1 false 1,none⟩,⟨(some 5),.bin .eql 3 4,none⟩]
def jc3 : List GOp:=[⟨(some 6),.load 1 false 1,none⟩,⟨(some 7),.bin .add 6 (ci 1),none⟩,⟨none,.store 1 1 7,none⟩]
def c41 : EFn:=⟨8,.seq (.reg jd3) (.cond 5 (.reg jc3) (.skip)),[]⟩
theorem vg2 : zv0 Tryz.prog 41=some c41.er:=by kernel_rfl
def eu2 : List GOp:=[⟨(some 8),.load 1 false 1,none⟩,⟨(some 9),.mv 0,none⟩,⟨(some 10),.fo0 (.int .i64) false false (.bool false) 8 9,none⟩]
def eo2 : List GOp:=[⟨(some 11),.load 1 false 1,none⟩,⟨(some 12),.mv 0,none⟩,⟨none,.mset (.int .i64) false 11 12 (cB true),none⟩]
def ei2 : List GOp:=[⟨(some 13),.load 1 false 2,none⟩,⟨(some 14),.mv 0,none⟩,⟨(some 15),.callv 13 [14],none⟩]
def ee2 : List GOp:=[⟨(some 16),.load 1 false 3,none⟩,⟨(some 17),.mv 0,none⟩,⟨(some 18),.idxA 4 16 17,none⟩,⟨(some 19),.fadd 2 18,none⟩,⟨(some 20),.load 1 false 19,none⟩,⟨(some 21),.len false 20,none⟩,⟨(some 22),.mv (ci 0),none⟩]
def ea2 : List GOp:=[⟨(some 23),.bin .lss 22 21,none⟩]
def er2 : List GOp:=[⟨(some 24),.idxA 1 20 22,none⟩,⟨(some 25),.load 1 false 24,none⟩,⟨(some 7),.mv 25,none⟩]
def en2 : List GOp:=[⟨(some 26),.load 1 false 4,none⟩,⟨(some 27),.mv 7,none⟩,⟨(some 28),.callv 26 [27],none⟩]
def et2 : List GOp:=[⟨(some 29),.bin .add 22 (ci 1),none⟩,⟨(some 22),.mv 29,none⟩]
def iq2 : DE:=.seq (.reg ea2) (.seq (.cond 23 (.skip) (.exit 0)) (.join (.block 1 (.seq (.reg er2) (.reg en2))) (.reg et2)))
def c81 : EFn:=⟨30,.seq (.seq (.reg eu2) (.cond 10 (.ret) (.skip))) (.seq (.reg eo2) (.join (.reg ei2) (.seq (.reg ee2) (.block 0 (.loop iq2))))),[]⟩
theorem ed1 : zv0 Tryz.prog 81=some c81.er:=by kernel_rfl
set_option maxHeartbeats 8000000 in
theorem iq1 {P:Program}(hP:P=Tryz.prog)(nodes:(List Node))(rec:(Int→(List (Int×Bool))→Int→Option ((List (Int×Bool))×Int)))(at0:Int)(seen:(List (Int×Bool)))(nxt:Int)(hrec:∀ at0 seen nxt r,rec at0 seen nxt=some r→qe0 P 81 [.cells [.hd 1] 134,.mp (.int .i64) false (WM (Value.int .i64) eB seen),.cells [.clo (.func 41) [] [.ptr 3 0]] 95,.cells [.d (.val (.int .i64 nxt))] 3,.cells [dq qk0 nodes] 25,.cells [.clo (.func 81) [] [.ptr 0 0,.ptr 2 0,.ptr 4 0,.ptr 5 0]] 95] [.d (.val (.int .i64 at0)),.ptr 0 0,.ptr 2 0,.ptr 4 0,.ptr 5 0] (fun sv own'=>sv=.tup []∧own'=[.cells [.hd 1] 134,.mp (.int .i64) false (WM (Value.int .i64) eB r.1),.cells [.clo (.func 41) [] [.ptr 3 0]] 95,.cells [.d (.val (.int .i64 r.2))] 3,.cells [dq qk0 nodes] 25,.cells [.clo (.func 81) [] [.ptr 0 0,.ptr 2 0,.ptr 4 0,.ptr 5 0]] 95]))(r:(List (Int×Bool))×Int)(h:lm0 nodes rec at0 seen nxt=some r):qe0 P 81 [.cells [.hd 1] 134,.mp (.int .i64) false (WM (Value.int .i64) eB seen),.cells [.clo (.func 41) [] [.ptr 3 0]] 95,.cells [.d (.val (.int .i64 nxt))] 3,.cells [dq qk0 nodes] 25,.cells [.clo (.func 81) [] [.ptr 0 0,.ptr 2 0,.ptr 4 0,.ptr 5 0]] 95] [.d (.val (.int .i64 at0)),.ptr 0 0,.ptr 2 0,.ptr 4 0,.ptr 5 0] (fun sv own'=>sv=.tup []∧own'=[.cells [.hd 1] 134,.mp (.int .i64) false (WM (Value.int .i64) eB r.1),.cells [.clo (.func 41) [] [.ptr 3 0]] 95,.cells [.d (.val (.int .i64 r.2))] 3,.cells [dq qk0 nodes] 25,.cells [.clo (.func 81) [] [.ptr 0 0,.ptr 2 0,.ptr 4 0,.ptr 5 0]] 95]):=by
 refine .yh1 6 rfl (Nat.le_of_ble_eq_true rfl) (hP▸ed1) fun K hK=>?_;unfold lm0 at h;cbv;refine .gi (e:=eB) h (by first | rfl | exact yz0 _ _) (fun h=>h) fun y1 h=>?_;cbv;refine qf0 h (fun h=>?_) (fun h=>?_)
 ·cbv;obtain rfl:=Option.some.inj h;refine hK _ _ [0,1,2,3,4,5] ?_;(cbv;repeat (refine⟨by first | rfl | exact xr0 _ | simp only[ka0] | simp only[vx0],?_⟩;cbv))
 ·cbv;refine .gi (e:=eB) h (by first | rfl | exact yz0 _ _) (by first | rfl | exact xr0 _ | (cbv;simp only[ka0])) fun m2 h=>?_;cbv;refine .g h (fun (c3:Int)=>[.d (.val (.int .i64 at0)),.top,.top,.ptr 4 0,.ptr 5 0]++List.replicate 25 .top) (fun c3=>[.cells [.hd 1] 134,.mp (.int .i64) false (WM (Value.int .i64) eB m2),.cells [.clo (.func 41) [] [.ptr 3 0]] 95,.cells [.d (.val (.int .i64 c3))] 3,.cells [dq qk0 nodes] 25,.cells [.clo (.func 81) [] [.ptr 0 0,.ptr 2 0,.ptr 4 0,.ptr 5 0]] 95]) (fun y hm Kn1 hKn1=>?_) fun t h=>?_
  ·have h:=hm;clear hm;cbv;refine .inl (hP▸vg2) ?_;cbv;refine qf0 h (fun h=>?_) (fun h=>?_)
   ·cbv;obtain rfl:=Option.some.inj h;refine hKn1 _ _ _ rfl (.nz (.mtE [0,1,2,3,4,5] ?_));(cbv;repeat (refine⟨by first | rfl | exact xr0 _ | simp only[ka0] | simp only[vx0],?_⟩;cbv))
   ·cbv;obtain rfl:=Option.some.inj h;refine hKn1 _ _ _ rfl (.nz (.mtE [0,1,2,3,4,5] ?_));(cbv;repeat (refine⟨by first | rfl | exact xr0 _ | simp only[ka0] | simp only[vx0],?_⟩;cbv))
  obtain⟨c3,rfl⟩:=ez t;cbv;refine .g h (fun _=>rfl) fun x4 h=>?_;cbv;refine .g h (fun ((own5,c6,v7):(List (Int×Bool))×Int×Int)=>List.replicate 4 .top++[.ptr 5 0]++List.replicate 15 .top++[dq qq0 x4.Kids,.d (.val (.int .i64 (io.len (W qq0 x4.Kids)))),.d (.val (.int .i64 v7))]++List.replicate 7 .top) (fun (own5,c6,v7)=>[.cells [.hd 1] 134,.mp (.int .i64) false (WM (Value.int .i64) eB own5),.cells [.clo (.func 41) [] [.ptr 3 0]] 95,.cells [.d (.val (.int .i64 c6))] 3,.cells [dq qk0 nodes] 25,.cells [.clo (.func 81) [] [.ptr 0 0,.ptr 2 0,.ptr 4 0,.ptr 5 0]] 95]) (.nz (.mtE [0,1,2,3,4,5] ?_)) fun s x h hr1 Kn1 hKn1=>?_
  ·(cbv;repeat (refine⟨by first | rfl | exact xr0 _ | simp only[ka0] | simp only[vx0],?_⟩;cbv))
  unfold pz0 at h;obtain⟨own5,c6,v7⟩:=s;cbv;refine qf0 h (fun h=>?_) (fun h=>?_)
  ·cbv;refine .g h (fun ((own8,c9):(List (Int×Bool))×Int)=>List.replicate 4 .top++[.ptr 5 0]++List.replicate 15 .top++[dq qq0 x4.Kids,.d (.val (.int .i64 (io.len (W qq0 x4.Kids)))),.d (.val (.int .i64 v7))]++List.replicate 7 .top) (fun (own8,c9)=>[.cells [.hd 1] 134,.mp (.int .i64) false (WM (Value.int .i64) eB own8),.cells [.clo (.func 41) [] [.ptr 3 0]] 95,.cells [.d (.val (.int .i64 c9))] 3,.cells [dq qk0 nodes] 25,.cells [.clo (.func 81) [] [.ptr 0 0,.ptr 2 0,.ptr 4 0,.ptr 5 0]] 95]) (fun y hm Kn2 hKn2=>?_) fun t h=>?_
   ·have h:=hm;clear hm;cbv;refine .g h (fun _=>rfl) fun x10 h=>?_;cbv;obtain⟨r11,hm,h⟩:=Option.bind_eq_some_iff.1 h;refine .dr1 [0,1,2,3,4,5] (hrec _ _ _ _ hm) (by (cbv;repeat (refine⟨by first | rfl | exact xr0 _ | simp only[ka0] | simp only[vx0],?_⟩;cbv))) fun sv0 own0 hq _=>?_;obtain⟨rfl,rfl⟩:=hq;clear hm;cbv;obtain rfl:=Option.some.inj h;refine hKn2 _ _ _ rfl (.nz (.mtE [0,1,2,3,4,5] ?_));(cbv;repeat (refine⟨by first | rfl | exact xr0 _ | simp only[ka0] | simp only[vx0],?_⟩;cbv))
   obtain⟨own8,c9⟩:=t;cbv;obtain rfl:=Option.some.inj h;refine hKn1 _ _ _ rfl (.nz (.mtE [0,1,2,3,4,5] ?_));(cbv;repeat (refine⟨by first | rfl | exact xr0 _ | simp only[ka0] | simp only[vx0],?_⟩;cbv))
  ·cbv;obtain rfl:=Option.some.inj h;obtain rfl:=hr1 _ rfl;refine hK _ _ [0,1,2,3,4,5] ?_;(cbv;repeat (refine⟨by first | rfl | exact xr0 _ | simp only[ka0] | simp only[vx0],?_⟩;cbv))
theorem qq1 {P:Program}(hP:P=Tryz.prog)(nodes:(List Node)):∀ (n:Nat)(at0:Int)(seen:(List (Int×Bool)))(nxt:Int)(r:(List (Int×Bool))×Int),yp1 nodes n at0 seen nxt=some r→qe0 P 81 [.cells [.hd 1] 134,.mp (.int .i64) false (WM (Value.int .i64) eB seen),.cells [.clo (.func 41) [] [.ptr 3 0]] 95,.cells [.d (.val (.int .i64 nxt))] 3,.cells [dq qk0 nodes] 25,.cells [.clo (.func 81) [] [.ptr 0 0,.ptr 2 0,.ptr 4 0,.ptr 5 0]] 95] [.d (.val (.int .i64 at0)),.ptr 0 0,.ptr 2 0,.ptr 4 0,.ptr 5 0] (fun sv own'=>sv=.tup []∧own'=[.cells [.hd 1] 134,.mp (.int .i64) false (WM (Value.int .i64) eB r.1),.cells [.clo (.func 41) [] [.ptr 3 0]] 95,.cells [.d (.val (.int .i64 r.2))] 3,.cells [dq qk0 nodes] 25,.cells [.clo (.func 81) [] [.ptr 0 0,.ptr 2 0,.ptr 4 0,.ptr 5 0]] 95])
 | 0,_,_,_,_,h=>by cases h
 | n+1,at0,seen,nxt,r,h=>iq1 hP nodes _ at0 seen nxt (qq1 hP nodes n) r h
end Go.SX.Td
namespace Go.SX.Td
open Go Go.SX Go.Proofs
set_option maxRecDepth 100000
noncomputable def ja0 (r_:Rule):Option (Bool) :=
 bif (io.eq r_.Kind 1) then (
 bif (io.le 0 r_.N) then (
 some (io.le r_.N 100)
 ) else (
 some false
 )
 ) else (
 bif (io.eq r_.Kind 3) then (
 bif (io.le 0 r_.N) then (
 bif (io.le r_.N 10000000) then (
 bif (io.le 1 r_.R.Den) then (
 bif (io.le r_.R.Den 1000000) then (
 bif (io.le 0 r_.R.Num) then (
 bif (io.le r_.R.Num (io.ar .mul .i64 1 r_.R.Den)) then (
 bif (io.le r_.R.Num 1000000) then (
 bif (io.le 1 r_.S.Den) then (
 bif (io.le r_.S.Den 1000000) then (
 bif (io.le 0 r_.S.Num) then (
 bif (io.le r_.S.Num (io.ar .mul .i64 1 r_.S.Den)) then (
 some (io.le r_.S.Num 1000000)
 ) else (
 some false
 )
 ) else (
 some false
 )
 ) else (
 some false
 )
 ) else (
 some false
 )
 ) else (
 some false
 )
 ) else (
 some false
 )
 ) else (
 some false
 )
 ) else (
 some false
 )
 ) else (
 some false
 )
 ) else (
 some false
 )
 ) else (
 some false
 )
 ) else (
 bif (io.eq r_.Kind 4) then (
 bif (io.le 1 r_.R.Den) then (
 bif (io.le r_.R.Den 1000000) then (
 bif (io.le 0 r_.R.Num) then (
 bif (io.le r_.R.Num (io.ar .mul .i64 10 r_.R.Den)) then (
 bif (io.le r_.R.Num 1000000) then (
 bif (io.le 1 r_.S.Den) then (
 bif (io.le r_.S.Den 1000000) then (
 bif (io.le 0 r_.S.Num) then (
 bif (io.le r_.S.Num (io.ar .mul .i64 1 r_.S.Den)) then (
 some (io.le r_.S.Num 1000000)
 ) else (
 some false
 )
 ) else (
 some false
 )
 ) else (
 some false
 )
 ) else (
 some false
 )
 ) else (
 some false
 )
 ) else (
 some false
 )
 ) else (
 some false
 )
 ) else (
 some false
 )
 ) else (
 some false
 )
 ) else (
 bif (io.eq r_.Kind 5) then (
 bif (io.le 1 r_.R.Den) then (
 bif (io.le r_.R.Den 1000000) then (
 bif (io.le 0 r_.R.Num) then (
 bif (io.le r_.R.Num (io.ar .mul .i64 1 r_.R.Den)) then (
 some (io.le r_.R.Num 1000000)
 ) else (
 some false
 )
 ) else (
 some false
 )
 ) else (
 some false
 )
 ) else (
 some false
 )
 ) else (
 Option.bind (
 bif (io.eq r_.Kind 2) then (
 some (io.eq r_.Kind 2)
 ) else (
 bif (io.eq r_.Kind 6) then (
 some (io.eq r_.Kind 6)
 ) else (
 some (io.eq r_.Kind 7)
 )
 )
 ) fun v1 =>
 bif v1 then (
 some true
 ) else (
 some false
 )
 )
 )
 )
 )
end Go.SX.Td
namespace Go.SX.Td
open Go Go.SX Go.Proofs
set_option maxRecDepth 100000
noncomputable def jr0 (z_:(A10 Range))(v1:(A10 Range)):Int→Option ((Int) ⊕ ((Unit) ⊕ (Bool)))
 | v2 =>
 bif (io.lt v2 10) then (
 Option.bind (
 Option.bind (ac0 10 v2) fun i5 =>
 some ((z_.get i5).Lo,(z_.get i5).Hi)
 ) fun (Lo3,Hi4) =>
 Option.bind (
 bif (io.lt Hi4 Lo3) then (
 some true
 ) else (
 Option.bind (ac0 10 v2) fun i7 =>
 bif (io.lt Lo3 (v1.get i7).Lo) then (
 some true
 ) else (
 some (io.lt (v1.get i7).Hi Hi4)
 )
 )
 ) fun v6 =>
 bif v6 then (
 some (.inr (.inr false))
 ) else (
 some (.inl (io.ar .add .i64 v2 1))
 )
 ) else (
 some (.inr (.inl ()))
 )
noncomputable def ks0 (z_:(A10 Range)):Option (Bool) :=
 Option.bind (zo0) fun v1 =>
 orR (
 qw0 (jr0 z_ v1) 0
 ) fun _ =>
 some true
end Go.SX.Td
namespace Go.SX.Td
open Go Go.SX Go.Proofs
set_option maxRecDepth 100000
noncomputable def yw0 (x6:Rule)(m8:(List (ByteArray×Bool))):Int→Option ((Int) ⊕ ((Unit) ⊕ ((List (ByteArray×Bool))×Bool)))
 | v10 =>
 bif (io.lt v10 (io.len (W qj0 x6.Zones))) then (
 Option.bind (
 Option.bind (zf0 x6.Zones v10) fun x12 =>
 Option.bind (ks0 x12) fun v13 =>
 some (io.not v13)
 ) fun v11 =>
 bif v11 then (
 some (.inr (.inr (m8,(io.le 0 v10))))
 ) else (
 some (.inl (io.ar .add .i64 v10 1))
 )
 ) else (
 some (.inr (.inl ()))
 )
noncomputable def je0 (p:Policy):((List (ByteArray×Bool))×Int)→Option (((List (ByteArray×Bool))×Int) ⊕ (((List (ByteArray×Bool))) ⊕ (Bool)))
 | (own2,v3) =>
 bif (io.lt v3 (io.len (W qp0 p.Rules))) then (
 Option.bind (
 Option.bind (zf0 p.Rules v3) fun x6 =>
 Option.bind (some (wc0 own2 x6.Name false)) fun y7 =>
 Option.bind (some (ku0 own2 x6.Name true)) fun m8 =>
 bif y7 then (
 some (m8,true)
 ) else (
 Option.bind (ja0 x6) fun v9 =>
 bif (io.not v9) then (
 some (m8,true)
 ) else (
 bif (io.lt 200 (io.len (W qj0 x6.Zones))) then (
 some (m8,true)
 ) else (
 orR (
 qw0 (yw0 x6 m8) 0
 ) fun _ =>
 some (m8,(io.le 0 (-1)))
 )
 )
 )
 ) fun (own4,v5) =>
 bif v5 then (
 some (.inr (.inr (io.not (io.le 0 v3))))
 ) else (
 some (.inl (own4,(io.ar .add .i64 v3 1)))
 )
 ) else (
 some (.inr (.inl own2))
 )
noncomputable def vg0 (p:Policy):Option (Bool) :=
 bif (io.le (io.len (W qp0 p.Rules)) 200) then (
 orR (
 qw0 (je0 p) ([],0)
 ) fun own1 =>
 some (io.not (io.le 0 (-1)))
 ) else (
 some false
 )
end Go.SX.Td
namespace Go.SX.Td
open Go Go.SX Go.Proofs
set_option maxRecDepth 100000
noncomputable def yy0 (f:(A10 Int))(x3:(A10 Range)):Int→Option ((Int) ⊕ ((Unit) ⊕ (Bool)))
 | v4 =>
 bif (io.lt v4 10) then (
 Option.bind (
 Option.bind (ac0 10 v4) fun i6 =>
 some (f.get i6)
 ) fun n5 =>
 Option.bind (
 Option.bind (ac0 10 v4) fun ix8 =>
 bif (io.lt n5 (x3.get ix8).Lo) then (
 some true
 ) else (
 some (io.lt (x3.get ix8).Hi n5)
 )
 ) fun v7 =>
 bif v7 then (
 some (.inr (.inr false))
 ) else (
 some (.inl (io.ar .add .i64 v4 1))
 )
 ) else (
 some (.inr (.inl ()))
 )
noncomputable def ji0 (r_:Rule)(f:(A10 Int)):Int→Option ((Int) ⊕ ((Unit) ⊕ (Bool)))
 | v1 =>
 bif (io.lt v1 (io.len (W qj0 r_.Zones))) then (
 Option.bind (
 Option.bind (zf0 r_.Zones v1) fun x3 =>
 orR (
 qw0 (yy0 f x3) 0
 ) fun _ =>
 some true
 ) fun v2 =>
 bif v2 then (
 some (.inr (.inr (io.le 0 v1)))
 ) else (
 some (.inl (io.ar .add .i64 v1 1))
 )
 ) else (
 some (.inr (.inl ()))
 )
noncomputable def za0 (r_:Rule)(f:(A10 Int)):Option (Bool) :=
 orR (
 qw0 (ji0 r_ f) 0
 ) fun _ =>
 some (io.le 0 (-1))
end Go.SX.Td
namespace Go.SX.Td
open Go Go.SX Go.Proofs
set_option maxRecDepth 100000
noncomputable def jo0 (p:Policy)(f:(A10 Int)):(Bool×Bool×Int×Int×Int×Int×Int×Int×Int×Int×Int×Int×Int×Int×Bool×Bool×Bool×Int×Int×Int)→Option ((Bool×Bool×Int×Int×Int×Int×Int×Int×Int×Int×Int×Int×Int×Int×Bool×Bool×Bool×Int×Int×Int) ⊕ (Bool×Bool×Int×Int×Int×Int×Int×Int×Int×Int×Int×Int×Int×Int×Bool×Bool×Bool×Int×Int))
 | (Together20,Single21,Limit22,Price23,Num24,Den25,Num26,Den27,Num28,Den29,Num30,Den31,Num32,Den33,priced34,sold35,back36,allowed37,denied38,v39) =>
 bif (io.lt v39 (io.len (W qp0 p.Rules))) then (
 Option.bind (
 Option.bind (zf0 p.Rules v39) fun x59 =>
 bif (io.eq x59.Kind 1) then (
 Option.bind (
 Option.bind (za0 x59 f) fun v61 =>
 some v61
 ) fun v60 =>
 bif v60 then (
 Option.bind (
 bif (io.lt allowed37 0) then (
 some v39
 ) else (
 some allowed37
 )
 ) fun allowed62 =>
 Option.bind (
 bif (io.lt 0 x59.N) then (
 bif (io.eq Limit22 0) then (
 some true
 ) else (
 some (io.lt x59.N Limit22)
 )
 ) else (
 some false
 )
 ) fun v63 =>
 bif v63 then (
 some (Together20,Single21,x59.N,Price23,Num24,Den25,Num26,Den27,Num28,Den29,Num30,Den31,Num32,Den33,priced34,sold35,back36,allowed62,denied38)
 ) else (
 some (Together20,Single21,Limit22,Price23,Num24,Den25,Num26,Den27,Num28,Den29,Num30,Den31,Num32,Den33,priced34,sold35,back36,allowed62,denied38)
 )
 ) else (
 some (Together20,Single21,Limit22,Price23,Num24,Den25,Num26,Den27,Num28,Den29,Num30,Den31,Num32,Den33,priced34,sold35,back36,allowed37,denied38)
 )
 ) else (
 bif (io.eq x59.Kind 2) then (
 Option.bind (
 Option.bind (za0 x59 f) fun v65 =>
 some v65
 ) fun v64 =>
 bif v64 then (
 bif (io.lt denied38 0) then (
 some (Together20,Single21,Limit22,Price23,Num24,Den25,Num26,Den27,Num28,Den29,Num30,Den31,Num32,Den33,priced34,sold35,back36,allowed37,v39)
 ) else (
 some (Together20,Single21,Limit22,Price23,Num24,Den25,Num26,Den27,Num28,Den29,Num30,Den31,Num32,Den33,priced34,sold35,back36,allowed37,denied38)
 )
 ) else (
 some (Together20,Single21,Limit22,Price23,Num24,Den25,Num26,Den27,Num28,Den29,Num30,Den31,Num32,Den33,priced34,sold35,back36,allowed37,denied38)
 )
 ) else (
 bif (io.eq x59.Kind 3) then (
 Option.bind (
 Option.bind (za0 x59 f) fun v67 =>
 some v67
 ) fun v66 =>
 bif v66 then (
 bif (io.not priced34) then (
 some (Together20,Single21,Limit22,x59.N,x59.R.Num,x59.R.Den,x59.S.Num,x59.S.Den,Num28,Den29,Num30,Den31,Num32,Den33,true,sold35,back36,allowed37,denied38)
 ) else (
 some (Together20,Single21,Limit22,Price23,Num24,Den25,Num26,Den27,Num28,Den29,Num30,Den31,Num32,Den33,priced34,sold35,back36,allowed37,denied38)
 )
 ) else (
 some (Together20,Single21,Limit22,Price23,Num24,Den25,Num26,Den27,Num28,Den29,Num30,Den31,Num32,Den33,priced34,sold35,back36,allowed37,denied38)
 )
 ) else (
 bif (io.eq x59.Kind 4) then (
 Option.bind (
 Option.bind (za0 x59 f) fun v69 =>
 some v69
 ) fun v68 =>
 bif v68 then (
 bif (io.not sold35) then (
 some (Together20,Single21,Limit22,Price23,Num24,Den25,Num26,Den27,x59.R.Num,x59.R.Den,x59.S.Num,x59.S.Den,Num32,Den33,priced34,true,back36,allowed37,denied38)
 ) else (
 some (Together20,Single21,Limit22,Price23,Num24,Den25,Num26,Den27,Num28,Den29,Num30,Den31,Num32,Den33,priced34,sold35,back36,allowed37,denied38)
 )
 ) else (
 some (Together20,Single21,Limit22,Price23,Num24,Den25,Num26,Den27,Num28,Den29,Num30,Den31,Num32,Den33,priced34,sold35,back36,allowed37,denied38)
 )
 ) else (
 bif (io.eq x59.Kind 5) then (
 Option.bind (
 Option.bind (za0 x59 f) fun v71 =>
 some v71
 ) fun v70 =>
 bif v70 then (
 bif (io.not back36) then (
 some (Together20,Single21,Limit22,Price23,Num24,Den25,Num26,Den27,Num28,Den29,Num30,Den31,x59.R.Num,x59.R.Den,priced34,sold35,true,allowed37,denied38)
 ) else (
 some (Together20,Single21,Limit22,Price23,Num24,Den25,Num26,Den27,Num28,Den29,Num30,Den31,Num32,Den33,priced34,sold35,back36,allowed37,denied38)
 )
 ) else (
 some (Together20,Single21,Limit22,Price23,Num24,Den25,Num26,Den27,Num28,Den29,Num30,Den31,Num32,Den33,priced34,sold35,back36,allowed37,denied38)
 )
 ) else (
 bif (io.eq x59.Kind 6) then (
 Option.bind (
 Option.bind (za0 x59 f) fun v73 =>
 some v73
 ) fun v72 =>
 bif v72 then (
 some (true,Single21,Limit22,Price23,Num24,Den25,Num26,Den27,Num28,Den29,Num30,Den31,Num32,Den33,priced34,sold35,back36,allowed37,denied38)
 ) else (
 some (Together20,Single21,Limit22,Price23,Num24,Den25,Num26,Den27,Num28,Den29,Num30,Den31,Num32,Den33,priced34,sold35,back36,allowed37,denied38)
 )
 ) else (
 bif (io.eq x59.Kind 7) then (
 Option.bind (
 Option.bind (za0 x59 f) fun v75 =>
 some v75
 ) fun v74 =>
 bif v74 then (
 some (Together20,true,Limit22,Price23,Num24,Den25,Num26,Den27,Num28,Den29,Num30,Den31,Num32,Den33,priced34,sold35,back36,allowed37,denied38)
 ) else (
 some (Together20,Single21,Limit22,Price23,Num24,Den25,Num26,Den27,Num28,Den29,Num30,Den31,Num32,Den33,priced34,sold35,back36,allowed37,denied38)
 )
 ) else (
 Option.bind (
 some ()
 ) fun _ =>
 some (Together20,Single21,Limit22,Price23,Num24,Den25,Num26,Den27,Num28,Den29,Num30,Den31,Num32,Den33,priced34,sold35,back36,allowed37,denied38)
 )
 )
 )
 )
 )
 )
 )
 ) fun (Together40,Single41,Limit42,Price43,Num44,Den45,Num46,Den47,Num48,Den49,Num50,Den51,Num52,Den53,priced54,sold55,back56,allowed57,denied58) =>
 some (.inl (Together40,Single41,Limit42,Price43,Num44,Den45,Num46,Den47,Num48,Den49,Num50,Den51,Num52,Den53,priced54,sold55,back56,allowed57,denied58,(io.ar .add .i64 v39 1)))
 ) else (
 some (.inr (Together20,Single21,Limit22,Price23,Num24,Den25,Num26,Den27,Num28,Den29,Num30,Den31,Num32,Den33,priced34,sold35,back36,allowed37,denied38))
 )
noncomputable def jp0 (p:Policy)(f:(A10 Int)):Option (Decision) :=
 Option.bind (
 qw0 (jo0 p f) (false,false,0,0,0,1,0,1,0,1,0,1,0,1,false,false,false,(-1),(-1),0)
 ) fun (Together1,Single2,Limit3,Price4,Num5,Den6,Num7,Den8,Num9,Den10,Num11,Den12,Num13,Den14,priced15,sold16,back17,allowed18,denied19) =>
 Option.bind (
 bif (io.le 0 allowed18) then (
 bif priced15 then (
 some (io.lt denied19 0)
 ) else (
 some false
 )
 ) else (
 some false
 )
 ) fun Allowed76 =>
 Option.bind (
 bif (io.le 0 denied19) then (
 some denied19
 ) else (
 some allowed18
 )
 ) fun By77 =>
 some (Decision.mk Allowed76 Together1 Single2 Limit3 Price4 (Ratio.mk Num5 Den6) (Ratio.mk Num7 Den8) (Ratio.mk Num9 Den10) (Ratio.mk Num11 Den12) (Ratio.mk Num13 Den14) By77)
end Go.SX.Td
namespace Go.SX.Td
open Go Go.SX Go.Proofs
set_option maxRecDepth 100000
noncomputable def pj0 (v9:Node)(rec:(Int→(List (Int×Bool))→(List Int)→(List (Int×Int))→Option ((List (Int×Bool))×(List Int)×(List (Int×Int))))):((List (Int×Bool))×(List Int)×(List (Int×Int))×Int)→Option (((List (Int×Bool))×(List Int)×(List (Int×Int))×Int) ⊕ ((List (Int×Bool))×(List Int)×(List (Int×Int))))
 | (own10,c11,own12,v13) =>
  bif (io.lt v13 (io.len (W qq0 v9.Kids))) then (
   Option.bind (
    Option.bind (zf0 v9.Kids v13) fun x17 =>
    Option.bind (rec x17 own10 c11 own12) fun r18 =>
    some (r18.1,r18.2.1,r18.2.2)
    ) fun (own14,c15,own16) =>
   some (.inl (own14,c15,own16,(io.ar .add .i64 v13 1)))
  ) else (
   some (.inr (own10,c11,own12))
  )
noncomputable def lc0 (nodes:(List Node))(rec:(Int→(List (Int×Bool))→(List Int)→(List (Int×Int))→Option ((List (Int×Bool))×(List Int)×(List (Int×Int)))))(at0:Int)(seen:(List (Int×Bool)))(ord:(List Int))(number:(List (Int×Int))):Option ((List (Int×Bool))×(List Int)×(List (Int×Int))) :=
 Option.bind (some (wc0 seen at0 false)) fun y1 =>
 bif y1 then (
  some (seen,ord,number)
 ) else (
  Option.bind (some (ku0 seen at0 true)) fun m2 =>
  Option.bind (
   Option.bind (some (ku0 number at0 (io.len (W qq0 ord)))) fun m5 =>
   Option.bind (some [at0]) fun l6 =>
   Option.bind (appG ord l6) fun l7 =>
   some (l7,m5)
   ) fun (c3,own4) =>
  Option.bind (gq0 nodes at0) fun ix8 =>
  Option.bind (nodes[ix8]?) fun v9 =>
  qw0 (pj0 v9 rec) (m2,c3,own4,0)
 )
noncomputable def walkT (nodes:(List Node)):Nat→Int→(List (Int×Bool))→(List Int)→(List (Int×Int))→Option ((List (Int×Bool))×(List Int)×(List (Int×Int)))
 | 0,_,_,_,_=>none
 | n+1,at0,seen,ord,number=>lc0 nodes (walkT nodes n) at0 seen ord number
end Go.SX.Td
namespace Go.SX.Td
open Go Go.SX Go.Proofs
set_option maxRecDepth 100000
noncomputable def kd0 (kind:Int)(name:ByteArray)(n:Int)(z_:(A10 Range)):Option (Rule) :=
 Option.bind (some [z_]) fun l1 =>
 some (Rule.mk kind name l1 n (Ratio.mk 0 1) (Ratio.mk 0 1))
end Go.SX.Td
namespace Go.SX.Td
open Go Go.SX Go.Proofs
set_option maxRecDepth 100000
noncomputable def kl0 (attr:Int)(r_:Range):Option ((A10 Range)) :=
 Option.bind (zo0) fun v1 =>
 Option.bind (
 Option.bind (ac0 10 attr) fun i3 =>
 some (v1.put i3 r_)
 ) fun z2 =>
 some z2
end Go.SX.Td
namespace Go.SX.Td
open Go Go.SX Go.Proofs
set_option maxRecDepth 100000
noncomputable def vu0 (a:(List Int))(b:(List Int)):Int→Option ((Int) ⊕ ((Unit) ⊕ (Bool)))
 | i1 =>
 bif (io.lt i1 (io.len (W qq0 a))) then (
 Option.bind (zf0 a i1) fun x2 =>
 Option.bind (zf0 b i1) fun x3 =>
 bif (io.not (io.eq x2 x3)) then (
 some (.inr (.inr false))
 ) else (
 some (.inl (io.ar .add .i64 i1 1))
 )
 ) else (
 some (.inr (.inl ()))
 )
noncomputable def jm0 (a:(List Int))(b:(List Int)):Option (Bool) :=
 bif (io.not (io.eq (io.len (W qq0 a)) (io.len (W qq0 b)))) then (
 some false
 ) else (
 orR (
 qw0 (vu0 a b) 0
 ) fun _ =>
 some true
 )
end Go.SX.Td
namespace Go.SX.Td
open Go Go.SX Go.Proofs
set_option maxRecDepth 100000
noncomputable def wh0 (a:Node)(b:Node):Option (Bool) :=
 bif (io.eq a.Attr b.Attr) then (
 bif (io.eq a.Leaf b.Leaf) then (
 Option.bind (jm0 a.Cuts b.Cuts) fun v1 =>
 bif v1 then (
 Option.bind (jm0 a.Kids b.Kids) fun v2 =>
 some v2
 ) else (
 some false
 )
 ) else (
 some false
 )
 ) else (
 some false
 )
end Go.SX.Td
namespace Go.SX.Td
open Go Go.SX Go.Proofs
set_option maxRecDepth 100000
def ed2 : List GOp:=gS 2 [.box 42 0]++gS 4 [.mv (cB false)]
def ec2 : List GOp:=gS 5 [.fadd 1 2,.load 1 false 5,.bin .geq 6 (ci 1),.mv 7]++gQ 8 true 9 [.fadd 1 2,.load 1 false 9,.bin .leq 10 (ci 1000000)]++gS 12 [.pick 8 11 (cB false),.mv 12]++gQ 13 true 14 [.fadd 0 2,.load 1 false 14,.bin .geq 15 (ci 0)]++gS 17 [.pick 13 16 (cB false),.mv 17]++gQ 18 true 19 [.fadd 0 2,.load 1 false 19,.mv 1,.fadd 1 2,.load 1 false 22,.bin .mul 21 23,.bin .leq 20 24]++gS 26 [.pick 18 25 (cB false),.mv 26]++gQ 27 true 28 [.fadd 0 2,.load 1 false 28,.bin .leq 29 (ci 1000000)]++gS 31 [.pick 27 30 (cB false)]++gS 4 [.mv 31]
def c82 : EFn:=⟨32,.seq (.reg ed2) (.seq (.reg ec2) (.ret)),[.tmp 4]⟩
theorem wt1 : zv0 Tryz.prog 82=some c82.er:=by kernel_rfl
def yx3 : List GOp:=gS 1 [.box 58 0,.mv (cB false)]
def yj3 : List GOp:=gS 3 [.fadd 0 1,.load 1 false 3]
def yz3 : List GOp:=gS 6 [.bin .eql 4 (ci 1)]++gS 5 [.mv 6]
def yq3 : List GOp:=gS 7 [.fadd 3 1,.load 1 false 7,.bin .geq 8 (ci 0),.mv 9]++gQ 10 true 11 [.fadd 3 1,.load 1 false 11,.bin .leq 12 (ci 100)]++gS 14 [.pick 10 13 (cB false)]++gS 2 [.mv 14]
def wu3 : List GOp:=gS 16 [.bin .eql 4 (ci 3)]++gS 15 [.mv 16]
def wo3 : List GOp:=gS 17 [.fadd 3 1,.load 1 false 17,.bin .geq 18 (ci 0),.mv 19]++gQ 20 true 21 [.fadd 3 1,.load 1 false 21,.bin .leq 22 (ci 10000000)]++gS 24 [.pick 20 23 (cB false),.mv 24]++gQ 25 true 26 [.fadd 4 1,.load 2 true 26,.call 82 [27,(ci 1)]]++gS 29 [.pick 25 28 (cB false),.mv 29]++gQ 30 true 31 [.fadd 6 1,.load 2 true 31,.call 82 [32,(ci 1)]]++gS 34 [.pick 30 33 (cB false)]++gS 2 [.mv 34]
def wi3 : List GOp:=gS 36 [.bin .eql 4 (ci 4)]++gS 35 [.mv 36]
def we3 : List GOp:=gS 37 [.fadd 4 1,.load 2 true 37,.call 82 [38,(ci 10)],.mv 39]++gQ 40 true 41 [.fadd 6 1,.load 2 true 41,.call 82 [42,(ci 1)]]++gS 44 [.pick 40 43 (cB false)]++gS 2 [.mv 44]
def wa3 : List GOp:=gS 46 [.bin .eql 4 (ci 5)]++gS 45 [.mv 46]
def wn3 : List GOp:=gS 47 [.fadd 4 1,.load 2 true 47,.call 82 [48,(ci 1)]]++gS 2 [.mv 49]
def kt2 : List GOp:=gS 51 [.bin .eql 4 (ci 2)]++gS 50 [.mv 51]
def kl2 : List GOp:=gS 52 [.bin .eql 4 (ci 6)]++gS 50 [.mv 52]
def kd2 : List GOp:=gS 53 [.bin .eql 4 (ci 7)]++gS 50 [.mv 53]
def kc2 : List GOp:=gS 2 [.mv (cB true)]
def km2 : List GOp:=gS 2 [.mv (cB false)]
def c47 : EFn:=⟨54,.seq (.reg yx3) (.seq (.seq (.reg yj3) (.block 0 (.seq (.reg yz3) (.cond 5 (.seq (.reg yq3) (.ret)) (.seq (.reg wu3) (.cond 15 (.seq (.reg wo3) (.ret)) (.seq (.reg wi3) (.cond 35 (.seq (.reg we3) (.ret)) (.seq (.reg wa3) (.cond 45 (.seq (.reg wn3) (.ret)) (.join (.seq (.reg kt2) (.cond 50 (.skip) (.seq (.reg kl2) (.cond 50 (.skip) (.reg kd2))))) (.cond 50 (.seq (.reg kc2) (.ret)) (.skip))))))))))))) (.seq (.reg km2) (.ret))),[.tmp 2]⟩
theorem ks2 : zv0 Tryz.prog 47=some c47.er:=by kernel_rfl
set_option maxHeartbeats 4000000 in
theorem mr0 {P:Program}(hP:P=Tryz.prog)(r_:Rule)(r:Bool)(h:ja0 r_=some r):Fn1 P 47 [sz1 r_] (vB r):=by
 refine .vz0 (hP▸ks2) fun K hK=>?_;unfold ja0 at h;cbv;refine qf0 h ?_ ?_<;>intro h
 ·cbv;refine qf0 h ?_ ?_<;>intro h
  ·cbv;obtain rfl:=oj h;exact hK _ _ aw_
  ·cbv;obtain rfl:=oj h;exact hK _ _ aw_
 ·cbv;refine qf0 h ?_ ?_<;>intro h
  ·cbv;refine qf0 h ?_ ?_<;>intro h
   ·cbv;refine qf0 h ?_ ?_<;>intro h
    ·cbv;refine .inl (hP▸wt1) ?_;cbv;refine qf0 h ?_ ?_<;>intro h
     ·cbv;refine qf0 h ?_ ?_<;>intro h
      ·cbv;refine qf0 h ?_ ?_<;>intro h
       ·cbv;refine qf0 h ?_ ?_<;>intro h
        ·cbv;refine qf0 h ?_ ?_<;>intro h
         ·cbv;refine .inl (hP▸wt1) ?_;cbv;refine qf0 h ?_ ?_<;>intro h
          ·cbv;refine qf0 h ?_ ?_<;>intro h
           ·cbv;refine qf0 h ?_ ?_<;>intro h
            ·cbv;refine qf0 h ?_ ?_<;>intro h
             ·cbv;obtain rfl:=oj h;exact hK _ _ aw_
             ·cbv;obtain rfl:=oj h;exact hK _ _ aw_
            ·cbv;obtain rfl:=oj h;exact hK _ _ aw_
           ·cbv;obtain rfl:=oj h;exact hK _ _ aw_
          ·cbv;obtain rfl:=oj h;exact hK _ _ aw_
         ·cbv;obtain rfl:=oj h;exact hK _ _ aw_
        ·cbv;obtain rfl:=oj h;exact hK _ _ aw_
       ·cbv;obtain rfl:=oj h;exact hK _ _ aw_
      ·cbv;obtain rfl:=oj h;exact hK _ _ aw_
     ·cbv;obtain rfl:=oj h;exact hK _ _ aw_
    ·cbv;obtain rfl:=oj h;exact hK _ _ aw_
   ·cbv;obtain rfl:=oj h;exact hK _ _ aw_
  ·cbv;refine qf0 h ?_ ?_<;>intro h
   ·cbv;refine .inl (hP▸wt1) ?_;cbv;refine qf0 h ?_ ?_<;>intro h
    ·cbv;refine qf0 h ?_ ?_<;>intro h
     ·cbv;refine qf0 h ?_ ?_<;>intro h
      ·cbv;refine qf0 h ?_ ?_<;>intro h
       ·cbv;refine qf0 h ?_ ?_<;>intro h
        ·cbv;refine .inl (hP▸wt1) ?_;cbv;refine qf0 h ?_ ?_<;>intro h
         ·cbv;refine qf0 h ?_ ?_<;>intro h
          ·cbv;refine qf0 h ?_ ?_<;>intro h
           ·cbv;refine qf0 h ?_ ?_<;>intro h
            ·cbv;obtain rfl:=oj h;exact hK _ _ aw_
            ·cbv;obtain rfl:=oj h;exact hK _ _ aw_
           ·cbv;obtain rfl:=oj h;exact hK _ _ aw_
          ·cbv;obtain rfl:=oj h;exact hK _ _ aw_
         ·cbv;obtain rfl:=oj h;exact hK _ _ aw_
        ·cbv;obtain rfl:=oj h;exact hK _ _ aw_
       ·cbv;obtain rfl:=oj h;exact hK _ _ aw_
      ·cbv;obtain rfl:=oj h;exact hK _ _ aw_
     ·cbv;obtain rfl:=oj h;exact hK _ _ aw_
    ·cbv;obtain rfl:=oj h;exact hK _ _ aw_
   ·cbv;refine qf0 h ?_ ?_<;>intro h
    ·cbv;refine .inl (hP▸wt1) ?_;cbv;refine qf0 h ?_ ?_<;>intro h
     ·cbv;refine qf0 h ?_ ?_<;>intro h
      ·cbv;refine qf0 h ?_ ?_<;>intro h
       ·cbv;refine qf0 h ?_ ?_<;>intro h
        ·cbv;obtain rfl:=oj h;exact hK _ _ aw_
        ·cbv;obtain rfl:=oj h;exact hK _ _ aw_
       ·cbv;obtain rfl:=oj h;exact hK _ _ aw_
      ·cbv;obtain rfl:=oj h;exact hK _ _ aw_
     ·cbv;obtain rfl:=oj h;exact hK _ _ aw_
    ·cbv;refine .g h (fun (v1:Bool)=>rp 50 .top++[ob v1]++rp 3 .top) (fun v1=>[]) (fun y hm Kn1 hKn1=>?_) fun t h=>?_
     ·have h:=hm;clear hm;cbv;refine qf0 h ?_ ?_<;>intro h
      ·cbv;obtain rfl:=oj h;exact hKn1 _ _ _ rfl (.nz (.mtE [] mx))
      ·cbv;refine qf0 h ?_ ?_<;>intro h
       ·cbv;obtain rfl:=oj h;exact hKn1 _ _ _ rfl (.nz (.mtE [] mx))
       ·cbv;obtain rfl:=oj h;exact hKn1 _ _ _ rfl (.nz (.mtE [] mx))
     obtain⟨v1,rfl⟩:=ez t;cbv;refine qf0 h ?_ ?_<;>intro h
     ·cbv;obtain rfl:=oj h;exact hK _ _ aw_
     ·cbv;obtain rfl:=oj h;exact hK _ _ aw_
end Go.SX.Td
namespace Go.SX.Td
open Go Go.SX Go.Proofs
set_option maxRecDepth 100000
def wp3 : List GOp:=gS 1 [.box 54 0,.mv (cB false)]
def wb3 : List GOp:=gS 6 [.call 23 []]++gS 3 [.alloc 54 (.agg #[oz,oz,oz,oz,oz,oz,oz,oz,oz,oz,oz,oz,oz,oz,oz,oz,oz,oz,oz,oz])]++[⟨none,.store 20 3 6,none⟩]
def wy3 : List GOp:=gS 7 [.load 20 true 1,.mv (ci 0)]
def ww3 : List GOp:=gS 9 [.bin .lss 8 (ci 10)]
def wv3 : List GOp:=gS 10 [.mv 8,.idxV 10 2 true 7 8]++gS 5 [.alloc 52 (.agg #[oz,oz])]++gS 4 [.mv 10]++[⟨none,.store 2 5 11,none⟩]
def wk3 : List GOp:=gS 12 [.fadd 0 5,.load 1 false 12,.fadd 1 5,.load 1 false 14,.bin .gtr 13 15,.mv 16]++gQ 17 false 18 [.fadd 0 5,.load 1 false 18,.mv 4,.idxP 10 2 3 20,.fadd 0 21,.load 1 false 22,.bin .lss 19 23]++gS 25 [.pick 17 (cB true) 24,.mv 25]++gQ 26 false 27 [.fadd 1 5,.load 1 false 27,.mv 4,.idxP 10 2 3 29,.fadd 1 30,.load 1 false 31,.bin .gtr 28 32]++gS 34 [.pick 26 (cB true) 33]
def wx3 : List GOp:=gS 2 [.mv (cB false)]
def wj3 : List GOp:=gS 35 [.bin .add 8 (ci 1)]++gS 8 [.mv 35]
def wh3 : DE:=.seq (.reg ww3) (.seq (.cond 9 (.skip) (.exit 0)) (.seq (.block 1 (.join (.reg wv3) (.join (.par true true true 21 wk3) (.cond 34 (.seq (.reg wx3) (.ret)) (.skip))))) (.reg wj3)))
def wz3 : List GOp:=gS 2 [.mv (cB true)]
def c50 : EFn:=⟨36,.seq (.reg wp3) (.seq (.reg wb3) (.join (.seq (.reg wy3) (.block 0 (.loop wh3))) (.seq (.reg wz3) (.ret)))),[.tmp 2]⟩
theorem kh2 : zv0 Tryz.prog 50=some c50.er:=by kernel_rfl
set_option maxHeartbeats 4000000 in
theorem ri0 {P:Program}(hP:P=Tryz.prog)(z_:(A10 Range))(r:Bool)(h:ks0 z_=some r):Fn1 P 50 [dy0 z_] (vB r):=by
 refine .vz0 (hP▸kh2) fun K hK=>?_;unfold ks0 at h;cbv;refine .g h (fun v hv=>js0 hP v hv) aw_ rfl (fun _=>rfl) fun v1 h=>?_;cbv;refine .ga h (fun (_:Unit)=>rp 36 .top) (fun _=>[]) (fun y hm hr1 Kn1 hKn1=>?_) fun t h=>?_
 ·have h:=hm;clear hm;cbv;refine .g h (fun (v2:Int)=>rp 3 .top++[.ptr 0 0]++rp 3 .top++[.agg (cR z_),oi v2]++rp 27 .top) (fun v2=>[.cells (cR v1) 54]) (.nz (.mtE [1] ?_)) fun s x h hr2 Kn2 hKn2=>?_
  ·exact mx
  unfold jr0 at h;obtain⟨v2,rfl⟩:=ez s;cbv;refine qf0 h ?_ ?_<;>intro h
  ·cbv;refine .g h (fun ((Lo3,Hi4):Int×Int)=>rp 3 .top++[.ptr 0 0,oi v2,.ptr 1 0,.top,.agg (cR z_),oi v2]++rp 27 .top) (fun (Lo3,Hi4)=>[.cells (cR v1) 54,.cells [oi Lo3,oi Hi4] 52]) (fun y hm Kn3 hKn3=>?_) fun t h=>?_
   ·have h:=hm;clear hm;cbv
    refine .c10 h ?_ ?_ ?_ ?_ ?_ ?_ ?_ ?_ ?_ ?_<;>(
     intro hni5 h;cbv;obtain rfl:=oj h;exact hKn3 _ _ _ rfl (.nz (.mtE [0,1] mx))
     )
   obtain⟨Lo3,Hi4⟩:=t;cbv;refine .g h (fun (v6:Bool)=>rp 3 .top++[.ptr 0 0]++rp 3 .top++[.agg (cR z_),oi v2]++rp 25 .top++[ob v6,.top]) (fun v6=>[.cells (cR v1) 54]) (fun y hm Kn3 hKn3=>?_) fun t h=>?_
   ·have h:=hm;clear hm;cbv;refine qf0 h ?_ ?_<;>intro h
    ·cbv;obtain rfl:=oj h;exact hKn3 _ _ _ rfl (.nz (.mtE [0] mx))
    ·cbv
     refine .c10 h ?_ ?_ ?_ ?_ ?_ ?_ ?_ ?_ ?_ ?_<;>(
      intro hni7 h;cbv;refine qf0 h ?_ ?_<;>intro h
      ·cbv;obtain rfl:=oj h;exact hKn3 _ _ _ rfl (.nz (.mtE [0] mx))
      ·cbv;refine .at _ hni7 (by decide) ?_;cbv;obtain rfl:=oj h;exact hKn3 _ _ _ rfl (.nz (.mtE [0] mx))
      )
   obtain⟨v6,rfl⟩:=ez t;cbv;refine qf0 h ?_ ?_<;>intro h
   ·cbv;obtain rfl:=oj h;obtain rfl:=hr2 _ rfl;obtain rfl:=hr1 _ rfl;exact hK _ _ aw_
   ·cbv;obtain rfl:=oj h;exact hKn2 _ _ _ rfl (.nz (.mtE [0] mx))
  ·cbv;obtain rfl:=oj h;obtain rfl:=hr2 _ rfl;exact hKn1 _ _ _ rfl (.nz (.mtE [] mx))
 cbv;obtain rfl:=oj h;exact hK _ _ aw_
end Go.SX.Td
namespace Go.SX.Td
open Go Go.SX Go.Proofs
set_option maxRecDepth 100000
def wq3 : List GOp:=gS 4 [.mv (cB false)]
def zu3 : List GOp:=gS 5 [.mv 0,.mv 1,.call 84 [5,6],.bin .geq 7 (ci 0)]++gS 4 [.mv 8]
def c51 : EFn:=⟨9,.seq (.reg wq3) (.seq (.reg zu3) (.ret)),[.tmp 4]⟩
theorem kp2 : zv0 Tryz.prog 51=some c51.er:=by kernel_rfl
def ex2 : List GOp:=gS 4 [.mv (ci 0)]
def ej2 : List GOp:=gS 6 [.mv 0,.len false 6,.mv (ci 0)]
def ez2 : List GOp:=gS 9 [.bin .lss 8 7]
def eq2 : List GOp:=gS 10 [.mv 8]++gS 5 [.mv 10]
def cu2 : List GOp:=gS 11 [.mv 1,.mv 0,.mv 5,.idxA 8 12 13,.load 8 true 14,.callv 11 [15]]
def co2 : List GOp:=gS 17 [.mv 5]++gS 4 [.mv 17]
def ci2 : List GOp:=gS 18 [.bin .add 8 (ci 1)]++gS 8 [.mv 18]
def ek2 : DE:=.seq (.reg ez2) (.seq (.cond 9 (.skip) (.exit 0)) (.seq (.block 1 (.seq (.reg eq2) (.join (.reg cu2) (.cond 16 (.seq (.reg co2) (.ret)) (.skip))))) (.reg ci2)))
def ce2 : List GOp:=gS 4 [.mv (ci (-1))]
def c84 : EFn:=⟨19,.seq (.reg ex2) (.join (.seq (.reg ej2) (.block 0 (.loop ek2))) (.seq (.reg ce2) (.ret))),[.tmp 4]⟩
theorem yr2 : zv0 Tryz.prog 84=some c84.er:=by kernel_rfl
def yy3 : List GOp:=gS 2 [.box 58 0,.mv (cB false)]
def yw3 : List GOp:=gS 5 [.load 1 false 1,.fadd 1 2,.load 1 false 6,.fo0 .str false false (.bool false) 5 7]++gS 4 [.mv 8]
def yv3 : List GOp:=gS 9 [.load 1 false 1,.fadd 1 2,.load 1 false 10]++[⟨none,.mset .str false 9 11 (cB true),none⟩]
def yk3 : List GOp:=gS 12 [.mv 4,.mv 12]++gQ 13 false 14 [.load 8 true 2,.call 47 [14],.un .not 15]++gS 17 [.pick 13 (cB true) 16,.mv 17]++gQ 18 false 19 [.fadd 2 2,.load 1 false 19,.len false 20,.bin .gtr 21 (ci 200)]++gS 23 [.pick 18 (cB true) 22,.mv 23]++gQ 24 false 25 [.fadd 2 2,.load 1 false 25,.call 48 [26,(.func 49)]]++gS 28 [.pick 24 (cB true) 27]++gS 3 [.mv 28]
def c46 : EFn:=⟨29,.seq (.reg yy3) (.seq (.reg yw3) (.seq (.reg yv3) (.seq (.reg yk3) (.ret)))),[.tmp 3]⟩
theorem kn2 : zv0 Tryz.prog 46=some c46.er:=by kernel_rfl
def ws3 : List GOp:=gS 4 [.mv (cB false)]
def wt3 : List GOp:=gS 5 [.mv 0,.mv 1,.call 83 [5,6],.bin .geq 7 (ci 0)]++gS 4 [.mv 8]
def c48 : EFn:=⟨9,.seq (.reg ws3) (.seq (.reg wt3) (.ret)),[.tmp 4]⟩
theorem et1 : zv0 Tryz.prog 48=some c48.er:=by kernel_rfl
def ef2 : List GOp:=gS 4 [.mv (ci 0)]
def eh2 : List GOp:=gS 6 [.mv 0,.len false 6,.mv (ci 0)]
def ep2 : List GOp:=gS 9 [.bin .lss 8 7]
def eg2 : List GOp:=gS 10 [.mv 8]++gS 5 [.mv 10]
def eb2 : List GOp:=gS 11 [.mv 1,.mv 0,.mv 5,.idxA 20 12 13,.load 20 true 14,.callv 11 [15]]
def ey2 : List GOp:=gS 17 [.mv 5]++gS 4 [.mv 17]
def ew2 : List GOp:=gS 18 [.bin .add 8 (ci 1)]++gS 8 [.mv 18]
def em2 : DE:=.seq (.reg ep2) (.seq (.cond 9 (.skip) (.exit 0)) (.seq (.block 1 (.seq (.reg eg2) (.join (.reg eb2) (.cond 16 (.seq (.reg ey2) (.ret)) (.skip))))) (.reg ew2)))
def ev2 : List GOp:=gS 4 [.mv (ci (-1))]
def c83 : EFn:=⟨19,.seq (.reg ef2) (.join (.seq (.reg eh2) (.block 0 (.loop em2))) (.seq (.reg ev2) (.ret))),[.tmp 4]⟩
theorem ec1 : zv0 Tryz.prog 83=some c83.er:=by kernel_rfl
def wl3 : List GOp:=gS 1 [.box 54 0,.mv (cB false)]
def wc3 : List GOp:=gS 3 [.load 20 true 1,.call 50 [3],.un .not 4]++gS 2 [.mv 5]
def c49 : EFn:=⟨6,.seq (.reg wl3) (.seq (.reg wc3) (.ret)),[.tmp 2]⟩
theorem kf2 : zv0 Tryz.prog 49=some c49.er:=by kernel_rfl
def uf3 : List GOp:=gS 1 [.box 24 0,.mv (cB false)]
def uh3 : List GOp:=gS 5 [.mkm .str false]++gS 3 [.alloc 61 (.map none)]++[⟨none,.store 1 3 5,none⟩]
def up3 : List GOp:=gS 6 [.mkfn (.func 46) [] [3]]++gS 4 [.mv 6]
def ug3 : List GOp:=gS 7 [.fadd 0 1,.load 1 false 7,.len false 8,.bin .leq 9 (ci 200),.mv 10]++gQ 11 true 12 [.fadd 0 1,.load 1 false 12,.mv 4,.call 51 [13,14],.un .not 15]++gS 17 [.pick 11 16 (cB false)]++gS 2 [.mv 17]
def c22 : EFn:=⟨18,.seq (.reg uf3) (.seq (.reg uh3) (.seq (.reg up3) (.seq (.reg ug3) (.ret)))),[.tmp 2]⟩
theorem sh2 : zv0 Tryz.prog 22=some c22.er:=by kernel_rfl
set_option maxHeartbeats 4000000 in
theorem cq0 {P:Program}(hP:P=Tryz.prog)(p:Policy)(r:Bool)(h:vg0 p=some r):Fn1 P 22 [ud0 p] (vB r):=by
 refine .vz0 (hP▸sh2) fun K hK=>?_;unfold vg0 at h;cbv;refine qf0 h ?_ ?_<;>intro h
 ·cbv;refine .inl (hP▸kp2) ?_;cbv;refine .inl (hP▸yr2) ?_;cbv;refine .ga h (fun (own1:(List (ByteArray×Bool)))=>rp 19 .top) (fun own1=>[.cells [dq qp0 p.Rules] 24,.mp .str false (WM Value.string eB own1),.cells [.hd 1] 61]) (fun y hm hr1 Kn1 hKn1=>?_) fun t h=>?_
  ·have h:=hm;clear hm;cbv;refine .g h (fun ((own2,v3):(List (ByteArray×Bool))×Int)=>[dq qp0 p.Rules,.clo (.func 46) [] [.ptr 2 0]]++rp 5 .top++[oi (io.len (W qp0 p.Rules)),oi v3]++rp 10 .top) (fun (own2,v3)=>[.cells [dq qp0 p.Rules] 24,.mp .str false (WM Value.string eB own2),.cells [.hd 1] 61]) (.nz (.mtE [0,1,2] ?_)) fun s x h hr2 Kn2 hKn2=>?_
   ·exact mx
   unfold je0 at h;obtain⟨own2,v3⟩:=s;cbv;refine qf0 h ?_ ?_<;>intro h
   ·cbv;refine .g h (fun ((own4,v5):(List (ByteArray×Bool))×Bool)=>[dq qp0 p.Rules,.clo (.func 46) [] [.ptr 2 0]]++rp 3 .top++[oi v3,.top,oi (io.len (W qp0 p.Rules)),oi v3]++rp 7 .top++[ob v5,.top,.top]) (fun (own4,v5)=>[.cells [dq qp0 p.Rules] 24,.mp .str false (WM Value.string eB own4),.cells [.hd 1] 61]) (fun y hm Kn3 hKn3=>?_) fun t h=>?_
    ·have h:=hm;clear hm;cbv;refine .g h (fun _=>rfl) fun x6 h=>?_;cbv;refine .inl (hP▸kn2) ?_;cbv;refine .gs (e:=eB) h (by first | rfl | exact yz0 _ _) (fun h=>h) fun y7 h=>?_;cbv;refine .gs (e:=eB) h (by first | rfl | exact yz0 _ _) aw_ fun m8 h=>?_;cbv;refine qf0 h ?_ ?_<;>intro h
     ·cbv;obtain rfl:=oj h;exact hKn3 _ _ _ rfl (.nz (.mtE [0,1,2] mx))
     ·cbv;refine .g h (fun v hv=>mr0 hP _ v hv) aw_ rfl (fun _=>rfl) fun v9 h=>?_;cbv;refine qf0 h ?_ ?_<;>intro h
      ·cbv;obtain rfl:=oj h;exact hKn3 _ _ _ rfl (.nz (.mtE [0,1,2] mx))
      ·cbv;refine qf0 h ?_ ?_<;>intro h
       ·cbv;obtain rfl:=oj h;exact hKn3 _ _ _ rfl (.nz (.mtE [0,1,2] mx))
       ·cbv;refine .inl (hP▸et1) ?_;cbv;refine .inl (hP▸ec1) ?_;cbv;refine .ga h (fun (_:Unit)=>rp 19 .top) (fun _=>[.cells [dq qp0 p.Rules] 24,.mp .str false (WM Value.string eB m8),.cells [.hd 1] 61,.cells [oi x6.Kind,.d (.val (.string x6.Name)),dq qj0 x6.Zones,oi x6.N,oi x6.R.Num,oi x6.R.Den,oi x6.S.Num,oi x6.S.Den] 58]) (fun y hm hr4 Kn4 hKn4=>?_) fun t h=>?_
        ·have h:=hm;clear hm;cbv;refine .g h (fun (v10:Int)=>[dq qj0 x6.Zones,.clo (.func 49) [] []]++rp 5 .top++[oi (io.len (W qj0 x6.Zones)),oi v10]++rp 10 .top) (fun v10=>[.cells [dq qp0 p.Rules] 24,.mp .str false (WM Value.string eB m8),.cells [.hd 1] 61,.cells [oi x6.Kind,.d (.val (.string x6.Name)),dq qj0 x6.Zones,oi x6.N,oi x6.R.Num,oi x6.R.Den,oi x6.S.Num,oi x6.S.Den] 58]) (.nz (.mtE [0,1,2,3] ?_)) fun s x h hr5 Kn5 hKn5=>?_
         ·exact mx
         unfold yw0 at h;obtain⟨v10,rfl⟩:=ez s;cbv;refine qf0 h ?_ ?_<;>intro h
         ·cbv;refine .g h (fun (v11:Bool)=>[dq qj0 x6.Zones,.clo (.func 49) [] []]++rp 3 .top++[oi v10,.top,oi (io.len (W qj0 x6.Zones)),oi v10]++rp 7 .top++[ob v11,.top,.top]) (fun v11=>[.cells [dq qp0 p.Rules] 24,.mp .str false (WM Value.string eB m8),.cells [.hd 1] 61,.cells [oi x6.Kind,.d (.val (.string x6.Name)),dq qj0 x6.Zones,oi x6.N,oi x6.R.Num,oi x6.R.Den,oi x6.S.Num,oi x6.S.Den] 58]) (fun y hm Kn6 hKn6=>?_) fun t h=>?_
          ·have h:=hm;clear hm;cbv;refine .g h (fun _=>rfl) fun x12 h=>?_;cbv;refine .inl (hP▸kf2) ?_;cbv;refine .g h (fun v hv=>ri0 hP _ v hv) aw_ rfl (fun _=>rfl) fun v13 h=>?_;cbv;obtain rfl:=oj h;exact hKn6 _ _ _ rfl (.nz (.mtE [0,1,2,3] mx))
          obtain⟨v11,rfl⟩:=ez t;cbv;refine qf0 h ?_ ?_<;>intro h
          ·cbv;obtain rfl:=oj h;obtain rfl:=hr5 _ rfl;obtain rfl:=hr4 _ rfl;exact hKn3 _ _ _ rfl (.nz (.mtE [0,1,2] mx))
          ·cbv;obtain rfl:=oj h;exact hKn5 _ _ _ rfl (.nz (.mtE [0,1,2,3] mx))
         ·cbv;obtain rfl:=oj h;obtain rfl:=hr5 _ rfl;exact hKn4 _ _ _ rfl (.nz (.mtE [0,1,2,3] mx))
        cbv;obtain rfl:=oj h;exact hKn3 _ _ _ rfl (.nz (.mtE [0,1,2] mx))
    obtain⟨own4,v5⟩:=t;cbv;refine qf0 h ?_ ?_<;>intro h
    ·cbv;obtain rfl:=oj h;obtain rfl:=hr2 _ rfl;obtain rfl:=hr1 _ rfl;exact hK _ _ aw_
    ·cbv;obtain rfl:=oj h;exact hKn2 _ _ _ rfl (.nz (.mtE [0,1,2] mx))
   ·cbv;obtain rfl:=oj h;obtain rfl:=hr2 _ rfl;exact hKn1 _ _ _ rfl (.nz (.mtE [0,1,2] mx))
  obtain⟨own1,rfl⟩:=ez t;cbv;obtain rfl:=oj h;exact hK _ _ aw_
 ·cbv;obtain rfl:=oj h;exact hK _ _ aw_
end Go.SX.Td
