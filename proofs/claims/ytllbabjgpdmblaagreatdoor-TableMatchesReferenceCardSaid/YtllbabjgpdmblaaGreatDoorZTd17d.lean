/- Parts of the proof. -/
import Derived.Test.YtllbabjgpdmblaaGreatDoorZTdT
import Derived.Test.YtllbabjgpdmblaaGreatDoorZTd26d
import Derived.Test.YtllbabjgpdmblaaGreatDoorZTryzShelf
import Derived.Test.YtllbabjgpdmblaaGreatDoorZTd49
import Derived.Test.YtllbabjgpdmblaaGreatDoorZTzwnode
set_option linter.unusedSimpArgs false
set_option linter.unusedVariables false
set_option linter.unusedSectionVars false
namespace Go.SX.Td
open Go Go.SX Go.Proofs
set_option maxRecDepth 100000
noncomputable def wp0 (t_:Table):((List (ByteArray×Bool))×(List (Decision×Bool))×Int×Int)→Option (((List (ByteArray×Bool))×(List (Decision×Bool))×Int×Int) ⊕ ((Int) ⊕ (Bool)))
 | (known3,decisions4,leaf5,v6) =>
 bif (io.lt v6 (io.len (W qk0 t_.Nodes))) then (
 orR (
 Option.bind (zf0 t_.Nodes v6) fun x10 =>
 Option.bind (some [x10.Attr,x10.Leaf]) fun l11 =>
 Option.bind (some [x10.Cuts,x10.Kids,l11]) fun l12 =>
 Option.bind (wq0 l12) fun key13 =>
 Option.bind (
 Option.bind (some (wc0 known3 key13 false)) fun y15 =>
 bif y15 then (
 some true
 ) else (
 Option.bind (wx0 t_ x10) fun v16 =>
 some (io.not v16)
 )
 ) fun v14 =>
 bif v14 then (
 some (.inr (.inr (.inr false)))
 ) else (
 Option.bind (some (ku0 known3 key13 true)) fun m17 =>
 bif (io.eq (io.len (W qq0 x10.Kids)) 0) then (
 Option.bind (
 bif (io.not (io.eq x10.Leaf leaf5)) then (
 some true
 ) else (
 Option.bind (zf0 t_.Leaves leaf5) fun x19 =>
 Option.bind (some (wc0 decisions4 x19 false)) fun y20 =>
 some y20
 )
 ) fun v18 =>
 bif v18 then (
 some (.inr (.inr (.inr false)))
 ) else (
 Option.bind (zf0 t_.Leaves leaf5) fun x21 =>
 Option.bind (some (ku0 decisions4 x21 true)) fun m22 =>
 some (.inl (m17,m22,(io.ar .add .i64 leaf5 1)))
 )
 ) else (
 some (.inl (m17,decisions4,leaf5))
 )
 )
 ) fun (known7,decisions8,leaf9) =>
 some (.inl (known7,decisions8,leaf9,(io.ar .add .i64 v6 1)))
 ) else (
 some (.inr (.inl leaf5))
 )
noncomputable def qu0 (t_:Table):Option (Bool) :=
 Option.bind (
 bif (io.lt (io.len (W qk0 t_.Nodes)) 1) then (
 some true
 ) else (
 some (io.lt 20000 (io.len (W qk0 t_.Nodes)))
 )
 ) fun v1 =>
 bif v1 then (
 some false
 ) else (
 orR (
 qw0 (wp0 t_) ([],[],0,0)
 ) fun leaf2 =>
 Option.bind (
 Option.bind (yp1 t_.Nodes 11 0 ([]:(List (Int×Bool))) 0) fun r24 =>
 some r24.2
 ) fun next23 =>
 bif (io.eq next23 (io.len (W qk0 t_.Nodes))) then (
 some (io.eq leaf2 (io.len (W qz0 t_.Leaves)))
 ) else (
 some false
 )
 )
end Go.SX.Td
namespace Go.SX.Td
open Go Go.SX Go.Proofs
set_option maxRecDepth 100000
def jr3 : List GOp:=gS 3 [.box 25 0]++gS 5 [.box 95 2]
def jn3 : List GOp:=gS 8 [.mkm (.int .i64) false]++gS 6 [.alloc 134 (.map none)]++[⟨none,.store 1 6 8,none⟩]
def js3 : List GOp:=gS 7 [.alloc 95 .nilFunc]
def jt3 : List GOp:=gS 9 [.mkfn (.func 81) [] [6,5,3,7]]++[⟨none,.store 1 7 9,none⟩]
def jl3 : List GOp:=gS 10 [.load 1 false 7,.mv 1,.callv 10 [11]]
def c40 : EFn:=⟨13,.seq (.reg jr3) (.seq (.reg jn3) (.seq (.reg js3) (.seq (.reg jt3) (.reg jl3)))),[]⟩
theorem en1 : zv0 Tryz.prog 40=some c40.er:=by kernel_rfl
def fv3 : List GOp:=gS 1 [.box 28 0,.mv (cB false)]
def fk3 : List GOp:=gS 10 [.fadd 0 1,.load 1 false 10,.len false 11,.bin .lss 12 (ci 1),.mv 13]++gQ 14 false 15 [.fadd 0 1,.load 1 false 15,.len false 16,.bin .gtr 17 (ci 20000)]++gS 19 [.pick 14 (cB true) 18]
def fx3 : List GOp:=gS 2 [.mv (cB false)]
def fj3 : List GOp:=gS 20 [.mkm .str false,.mkm (.agg [.bool,.bool,.bool,.int,.int,.int,.int,.int,.int,.int,.int,.int,.int,.int,.int,.int]) false]++gS 3 [.mv 20,.mv 21]
def fq3 : List GOp:=gS 5 [.mv (ci 0)]
def gu3 : List GOp:=gS 22 [.fadd 0 1,.load 1 false 22,.len false 23,.mv (ci 0)]
def go3 : List GOp:=gS 26 [.bin .lss 25 24]
def gi3 : List GOp:=gS 27 [.idxA 4 23 25,.load 4 true 27]++gS 7 [.alloc 50 (.agg #[oz,(.slice none 0 0),(.slice none 0 0),oz])]++[⟨none,.store 4 7 28,none⟩]
def ge3 : List GOp:=gS 29 [.fadd 1 7,.load 1 false 29,.fadd 2 7,.load 1 false 31,.fadd 0 7,.load 1 false 33,.fadd 3 7,.load 1 false 35,.bslice 3 1 2 oz [(0,34),(1,36)],.bslice 48 1 3 (.slice none 0 0) [(0,30),(1,32),(2,37)],.call 33 [38]]++gS 8 [.mv 39]
def ga3 : List GOp:=gS 40 [.mv 3,.mv 8,.fo0 .str false false (.bool false) 40 41,.mv 42]++gQ 43 false 44 [.load 2 true 1,.load 4 true 7,.call 39 [44,45],.un .not 46]++gS 48 [.pick 43 (cB true) 47]
def pf2 : List GOp:=gS 2 [.mv (cB false)]
def ph2 : List GOp:=gS 49 [.mv 3,.mv 8]++[⟨none,.mset .str false 49 50 (cB true),none⟩]
def pg2 : List GOp:=gS 51 [.fadd 2 7,.load 1 false 51,.len false 52,.bin .eql 53 (ci 0)]
def pb2 : List GOp:=gS 55 [.fadd 3 7,.load 1 false 55,.mv 5,.bin .neq 56 57,.mv 58]++gQ 59 false 60 [.mv 4,.fadd 1 1,.load 1 false 61,.mv 5,.idxA 16 62 63,.load 16 true 64,.fo0 (.agg [.bool,.bool,.bool,.int,.int,.int,.int,.int,.int,.int,.int,.int,.int,.int,.int,.int]) false false (.bool false) 60 65]++gS 67 [.pick 59 (cB true) 66]
def py2 : List GOp:=gS 2 [.mv (cB false)]
def pw2 : List GOp:=gS 68 [.mv 4,.fadd 1 1,.load 1 false 69,.mv 5,.idxA 16 70 71,.load 16 true 72]++[⟨none,.mset (.agg [.bool,.bool,.bool,.int,.int,.int,.int,.int,.int,.int,.int,.int,.int,.int,.int,.int]) false 68 73 (cB true),none⟩]
def pv2 : List GOp:=gS 74 [.mv 5,.bin .add 74 (ci 1)]++gS 5 [.mv 75]
def pk2 : List GOp:=gS 76 [.bin .add 25 (ci 1)]++gS 25 [.mv 76]
def pm2 : DE:=.seq (.reg go3) (.seq (.cond 26 (.skip) (.exit 0)) (.join (.block 1 (.seq (.reg gi3) (.seq (.reg ge3) (.seq (.join (.reg ga3) (.cond 48 (.seq (.reg pf2) (.ret)) (.skip))) (.seq (.reg ph2) (.seq (.reg pg2) (.cond 54 (.seq (.join (.reg pb2) (.cond 67 (.seq (.reg py2) (.ret)) (.skip))) (.seq (.reg pw2) (.reg pv2))) (.skip)))))))) (.reg pk2)))
def px2 : List GOp:=gS 9 [.alloc 3 oz]++[⟨none,.store 1 9 (ci 0),none⟩]
def pj2 : List GOp:=gS 77 [.fadd 0 1,.load 1 false 77,.mkfn (.func 41) [] [9],.call 40 [78,(ci 0),79]]
def pz2 : List GOp:=gS 81 [.load 1 false 9,.fadd 0 1,.load 1 false 82,.len false 83,.bin .eql 81 84,.mv 85]++gQ 86 true 87 [.mv 5,.fadd 1 1,.load 1 false 88,.len false 89,.bin .eql 87 90]++gS 92 [.pick 86 91 (cB false)]++gS 2 [.mv 92]
def c15 : EFn:=⟨93,.seq (.reg fv3) (.seq (.join (.reg fk3) (.cond 19 (.seq (.reg fx3) (.ret)) (.skip))) (.seq (.reg fj3) (.seq (.reg fq3) (.join (.seq (.reg gu3) (.block 0 (.loop pm2))) (.seq (.reg px2) (.join (.reg pj2) (.seq (.reg pz2) (.ret)))))))),[.tmp 2]⟩
theorem pd2 : zv0 Tryz.prog 15=some c15.er:=by kernel_rfl
set_option maxHeartbeats 4000000 in
theorem uy0 {P:Program}(hP:P=Tryz.prog)(t_:Table)(r:Bool)(h:qu0 t_=some r):Fn1 P 15 [uc0 t_] (vB r):=by
 refine .vz0 (hP▸pd2) fun K hK=>?_;unfold qu0 at h;cbv;refine .g h (fun (v1:Bool)=>[.top,.ptr 0 0]++rp 17 .top++[ob v1]++rp 73 .top) (fun v1=>[.cells [dq qk0 t_.Nodes,dq qz0 t_.Leaves] 28]) (fun y hm Kn1 hKn1=>?_) fun t h=>?_
 ·have h:=hm;clear hm;cbv;refine qf0 h ?_ ?_<;>intro h
  ·cbv;obtain rfl:=oj h;exact hKn1 _ _ _ rfl (.nz (.mtE [0] mx))
  ·cbv;obtain rfl:=oj h;exact hKn1 _ _ _ rfl (.nz (.mtE [0] mx))
 obtain⟨v1,rfl⟩:=ez t;cbv;refine qf0 h ?_ ?_<;>intro h
 ·cbv;obtain rfl:=oj h;exact hK _ _ aw_
 ·cbv;refine .ga h (fun (leaf2:Int)=>[.top,.ptr 0 0]++rp 3 .top++[oi leaf2]++rp 87 .top) (fun leaf2=>[.cells [dq qk0 t_.Nodes,dq qz0 t_.Leaves] 28]) (fun y hm hr1 Kn1 hKn1=>?_) fun t h=>?_
  ·have h:=hm;clear hm;cbv;refine .g h (fun ((known3,decisions4,leaf5,v6):(List (ByteArray×Bool))×(List (Decision×Bool))×Int×Int)=>[.top,.ptr 0 0,.top,.hd 1,.hd 2,oi leaf5]++rp 17 .top++[dq qk0 t_.Nodes,oi (io.len (W qk0 t_.Nodes)),oi v6]++rp 67 .top) (fun (known3,decisions4,leaf5,v6)=>[.cells [dq qk0 t_.Nodes,dq qz0 t_.Leaves] 28,.mp .str false (WM Value.string eB known3),.mp (.agg [.bool,.bool,.bool,.int,.int,.int,.int,.int,.int,.int,.int,.int,.int,.int,.int,.int]) false (WM qy0 eB decisions4)]) (.nz (.mtE [0,1,2] ?_)) fun s x h hr2 Kn2 hKn2=>?_
   ·exact mx
   unfold wp0 at h;obtain⟨known3,decisions4,leaf5,v6⟩:=s;cbv;refine qf0 h ?_ ?_<;>intro h
   ·cbv;refine .ga h (fun ((known7,decisions8,leaf9):(List (ByteArray×Bool))×(List (Decision×Bool))×Int)=>[.top,.ptr 0 0,.top,.hd 1,.hd 2,oi leaf9]++rp 17 .top++[dq qk0 t_.Nodes,oi (io.len (W qk0 t_.Nodes)),oi v6]++rp 67 .top) (fun (known7,decisions8,leaf9)=>[.cells [dq qk0 t_.Nodes,dq qz0 t_.Leaves] 28,.mp .str false (WM Value.string eB known7),.mp (.agg [.bool,.bool,.bool,.int,.int,.int,.int,.int,.int,.int,.int,.int,.int,.int,.int,.int]) false (WM qy0 eB decisions8)]) (fun y hm hr3 Kn3 hKn3=>?_) fun t h=>?_
    ·have h:=hm;clear hm;cbv;refine .g h (fun _=>rfl) fun x10 h=>?_;cbv;refine .g (e:=qq0) h (qd0 aw_ (qd0 aw_ (zw0 _))) fun l11 h=>?_;cbv;refine .g (e:=qt0) h (qd0 aw_ (qd0 aw_ (qd0 aw_ (zw0 _)))) fun l12 h=>?_;cbv;refine .gl [] h (fun v hv=>gv0 hP _ v hv) aw_ rfl fun key13 h=>?_;cbv;refine .g h (fun (v14:Bool)=>[.top,.ptr 0 0,.top,.hd 1,.hd 2,oi leaf5,.top,.ptr 3 0,.d (.val (.string key13))]++rp 14 .top++[dq qk0 t_.Nodes,oi (io.len (W qk0 t_.Nodes)),oi v6]++rp 22 .top++[ob v14]++rp 44 .top) (fun v14=>[.cells [dq qk0 t_.Nodes,dq qz0 t_.Leaves] 28,.mp .str false (WM Value.string eB known3),.mp (.agg [.bool,.bool,.bool,.int,.int,.int,.int,.int,.int,.int,.int,.int,.int,.int,.int,.int]) false (WM qy0 eB decisions4),.cells [oi x10.Attr,dq qq0 x10.Cuts,dq qq0 x10.Kids,oi x10.Leaf] 50]) (fun y hm Kn4 hKn4=>?_) fun t h=>?_
     ·have h:=hm;clear hm;cbv;refine .gs (e:=eB) h (by first | rfl | exact yz0 _ _) (fun h=>h) fun y15 h=>?_;cbv;refine qf0 h ?_ ?_<;>intro h
      ·cbv;obtain rfl:=oj h;exact hKn4 _ _ _ rfl (.nz (.mtE [0,1,2,3] mx))
      ·cbv;refine .g h (fun v hv=>ts0 hP _ _ v hv) aw_ rfl (fun _=>rfl) fun v16 h=>?_;cbv;obtain rfl:=oj h;exact hKn4 _ _ _ rfl (.nz (.mtE [0,1,2,3] mx))
     obtain⟨v14,rfl⟩:=ez t;cbv;refine qf0 h ?_ ?_<;>intro h
     ·cbv;obtain rfl:=oj h;obtain rfl:=hr3 _ rfl;obtain rfl:=hr2 _ rfl;obtain rfl:=hr1 _ rfl;exact hK _ _ aw_
     ·cbv;refine .gs (e:=eB) h (by first | rfl | exact yz0 _ _) aw_ fun m17 h=>?_;cbv;refine qf0 h ?_ ?_<;>intro h
      ·cbv;refine .g h (fun (v18:Bool)=>[.top,.ptr 0 0,.top,.hd 1,.hd 2,oi leaf5]++rp 17 .top++[dq qk0 t_.Nodes,oi (io.len (W qk0 t_.Nodes)),oi v6]++rp 41 .top++[ob v18]++rp 25 .top) (fun v18=>[.cells [dq qk0 t_.Nodes,dq qz0 t_.Leaves] 28,.mp .str false (WM Value.string eB m17),.mp (.agg [.bool,.bool,.bool,.int,.int,.int,.int,.int,.int,.int,.int,.int,.int,.int,.int,.int]) false (WM qy0 eB decisions4)]) (fun y hm Kn4 hKn4=>?_) fun t h=>?_
       ·have h:=hm;clear hm;cbv;refine qf0 h ?_ ?_<;>intro h
        ·cbv;obtain rfl:=oj h;exact hKn4 _ _ _ rfl (.nz (.mtE [0,1,2] mx))
        ·cbv;refine .g h (fun _=>rfl) fun x19 h=>?_;cbv;refine .g xd0 (k:=x19) (e:=eB) h (by first | rfl | exact yz0 _ _) (fun h=>h) fun y20 h=>?_;cbv;obtain rfl:=oj h;exact hKn4 _ _ _ rfl (.nz (.mtE [0,1,2] mx))
       obtain⟨v18,rfl⟩:=ez t;cbv;refine qf0 h ?_ ?_<;>intro h
       ·cbv;obtain rfl:=oj h;obtain rfl:=hr3 _ rfl;obtain rfl:=hr2 _ rfl;obtain rfl:=hr1 _ rfl;exact hK _ _ aw_
       ·cbv;refine .g h (fun _=>rfl) fun x21 h=>?_;cbv;refine .gk xd0 (k:=x21) (e:=eB) h (by first | rfl | exact yz0 _ _) aw_ fun m22 h=>?_;cbv;obtain rfl:=oj h;exact hKn3 _ _ _ rfl (.nz (.mtE [0,1,2] mx))
      ·cbv;obtain rfl:=oj h;exact hKn3 _ _ _ rfl (.nz (.mtE [0,1,2] mx))
    obtain⟨known7,decisions8,leaf9⟩:=t;cbv;obtain rfl:=oj h;exact hKn2 _ _ _ rfl (.nz (.mtE [0,1,2] mx))
   ·cbv;obtain rfl:=oj h;obtain rfl:=hr2 _ rfl;exact hKn1 _ _ _ rfl (.nz (.mtE [0] mx))
  obtain⟨leaf2,rfl⟩:=ez t;cbv;refine .g h (fun (next23:Int)=>[.top,.ptr 0 0]++rp 3 .top++[oi leaf2]++rp 3 .top++[.ptr 1 0]++rp 83 .top) (fun next23=>[.cells [dq qk0 t_.Nodes,dq qz0 t_.Leaves] 28,.cells [oi next23] 3]) (fun y hm Kn1 hKn1=>?_) fun t h=>?_
  ·have h:=hm;clear hm;cbv;refine .inl (hP▸en1) ?_;cbv;obtain⟨r24,hm,h⟩:=Option.bind_eq_some_iff.1 h;refine .dr1 [5,4,3,1,2,6] (qq1 hP t_.Nodes 11 _ _ _ _ hm) mx fun sv0 own0 hq _=>?_;obtain⟨rfl,rfl⟩:=hq;clear hm;cbv;obtain rfl:=oj h;exact hKn1 _ _ _ rfl (.nz (.mtE [0,1] mx))
  obtain⟨next23,rfl⟩:=ez t;cbv;refine qf0 h ?_ ?_<;>intro h
  ·cbv;obtain rfl:=oj h;exact hK _ _ aw_
  ·cbv;obtain rfl:=oj h;exact hK _ _ aw_
end Go.SX.Td
namespace Go.SX.Td
open Go Go.SX Go.Proofs
set_option maxRecDepth 100000
noncomputable def yj0 (Cuts8:(List Int))(Attr7:Int)(f:(A10 Int)):Int→Option ((Int) ⊕ ((Unit) ⊕ (Int)))
 | v12 =>
 bif (io.lt v12 (io.len (W qq0 Cuts8))) then (
 Option.bind (
 Option.bind (zf0 Cuts8 v12) fun x14 =>
 Option.bind (ac0 10 Attr7) fun i15 =>
 some (io.lt (f.get i15) x14)
 ) fun v13 =>
 bif v13 then (
 some (.inr (.inr v12))
 ) else (
 some (.inl (io.ar .add .i64 v12 1))
 )
 ) else (
 some (.inr (.inl ()))
 )
noncomputable def yx0 (f:(A10 Int))(t_:Table):(Int×(List Int)×(List Int)×Int)→Option ((Int×(List Int)×(List Int)×Int) ⊕ (Int×(List Int)×(List Int)×Int))
 | (Attr7,Cuts8,Kids9,Leaf10) =>
 bif (io.lt 0 (io.len (W qq0 Kids9))) then (
 Option.bind (
 orR (
 qw0 (yj0 Cuts8 Attr7 f) 0
 ) fun _ =>
 some (-1)
 ) fun k11 =>
 Option.bind (
 bif (io.lt k11 0) then (
 some (io.len (W qq0 Cuts8))
 ) else (
 some k11
 )
 ) fun k16 =>
 Option.bind (zf0 Kids9 k16) fun x17 =>
 Option.bind (zf0 t_.Nodes x17) fun x18 =>
 some (.inl (x18.Attr,x18.Cuts,x18.Kids,x18.Leaf))
 ) else (
 some (.inr (Attr7,Cuts8,Kids9,Leaf10))
 )
noncomputable def zn0 (t_:Table)(f:(A10 Int)):Option (Decision) :=
 Option.bind (qu0 t_) fun v1 =>
 bif (io.not v1) then (
 some (Decision.mk false false false 0 0 (Ratio.mk 0 0) (Ratio.mk 0 0) (Ratio.mk 0 0) (Ratio.mk 0 0) (Ratio.mk 0 0) 0)
 ) else (
 Option.bind (zf0 t_.Nodes 0) fun x2 =>
 Option.bind (
 qw0 (yx0 f t_) (x2.Attr,x2.Cuts,x2.Kids,x2.Leaf)
 ) fun (Attr3,Cuts4,Kids5,Leaf6) =>
 Option.bind (zf0 t_.Leaves Leaf6) fun x19 =>
 some x19
 )
end Go.SX.Td
namespace Go.SX.Td
open Go Go.SX Go.Proofs
set_option maxRecDepth 100000
def jj3 : List GOp:=gS 4 [.mv (ci 0)]
def jz3 : List GOp:=gS 6 [.mv 0,.len false 6,.mv (ci 0)]
def jq3 : List GOp:=gS 9 [.bin .lss 8 7]
def yu3 : List GOp:=gS 10 [.mv 8]++gS 5 [.mv 10]
def yo3 : List GOp:=gS 11 [.mv 1,.mv 0,.mv 5,.idxA 1 12 13,.load 1 false 14,.callv 11 [15]]
def yi3 : List GOp:=gS 17 [.mv 5]++gS 4 [.mv 17]
def ye3 : List GOp:=gS 18 [.bin .add 8 (ci 1)]++gS 8 [.mv 18]
def jx3 : DE:=.seq (.reg jq3) (.seq (.cond 9 (.skip) (.exit 0)) (.seq (.block 1 (.seq (.reg yu3) (.join (.reg yo3) (.cond 16 (.seq (.reg yi3) (.ret)) (.skip))))) (.reg ye3)))
def ya3 : List GOp:=gS 4 [.mv (ci (-1))]
def c43 : EFn:=⟨19,.seq (.reg jj3) (.join (.seq (.reg jz3) (.block 0 (.loop jx3))) (.seq (.reg ya3) (.ret))),[.tmp 4]⟩
theorem ki2 : zv0 Tryz.prog 43=some c43.er:=by kernel_rfl
def yr3 : List GOp:=gS 4 [.mv (cB false)]
def yn3 : List GOp:=gS 5 [.mv 0,.fadd 0 2,.load 1 false 6,.idxP 10 1 1 7,.load 1 false 8,.bin .gtr 5 9]++gS 4 [.mv 10]
def c44 : EFn:=⟨11,.seq (.reg yr3) (.seq (.reg yn3) (.ret)),[.tmp 4]⟩
theorem ke2 : zv0 Tryz.prog 44=some c44.er:=by kernel_rfl
def gb3 : List GOp:=gS 2 [.box 28 0,.box 32 1,.alloc 44 (.agg #[(.bool false),(.bool false),(.bool false),oz,oz,oz,oz,oz,oz,oz,oz,oz,oz,oz,oz,oz])]
def gy3 : List GOp:=gS 7 [.load 2 true 2,.call 15 [7],.un .not 8]
def gw3 : List GOp:=gS 10 [.build (.agg #[(.bool false),(.bool false),(.bool false),oz,oz,oz,oz,oz,oz,oz,oz,oz,oz,oz,oz,oz]) []]++[⟨none,.store 16 4 10,none⟩]
def gv3 : List GOp:=gS 11 [.fadd 0 2,.load 1 false 11,.idxA 4 12 (ci 0),.load 4 true 13]++gS 5 [.alloc 50 (.agg #[oz,(.slice none 0 0),(.slice none 0 0),oz])]++[⟨none,.store 4 5 14,none⟩]
def gk3 : List GOp:=gS 15 [.fadd 2 5,.load 1 false 15,.len false 16,.bin .gtr 17 (ci 0)]
def gx3 : List GOp:=gS 19 [.fadd 1 5,.load 1 false 19,.mkfn (.func 44) [] [3,5],.call 43 [20,21]]++gS 6 [.mv 22]
def gj3 : List GOp:=gS 23 [.mv 6,.bin .lss 23 (ci 0)]
def gz3 : List GOp:=gS 25 [.fadd 1 5,.load 1 false 25,.len false 26]++gS 6 [.mv 27]
def gq3 : List GOp:=gS 28 [.fadd 0 2,.load 1 false 28,.fadd 2 5,.load 1 false 30,.mv 6,.idxA 1 31 32,.load 1 false 33,.idxA 4 29 34,.load 4 true 35]
def sn2 : GOp:=⟨none,.store 4 5 36,none⟩
def gg3 : DE:=.seq (.seq (.reg gk3) (.cond 18 (.skip) (.exit 0))) (.block 1 (.join (.reg gx3) (.join (.seq (.reg gj3) (.cond 24 (.reg gz3) (.skip))) (.hyl true true 7 gq3 sn2))))
def sr2 : List GOp:=gS 37 [.fadd 1 2,.load 1 false 37,.fadd 3 5,.load 1 false 39,.idxA 16 38 40,.load 16 true 41]++[⟨none,.store 16 4 42,none⟩]
def c17 : EFn:=⟨43,.seq (.reg gb3) (.seq (.seq (.reg gy3) (.cond 9 (.seq (.reg gw3) (.ret)) (.skip))) (.seq (.reg gv3) (.join (.block 0 (.loop gg3)) (.seq (.reg sr2) (.ret))))),[.cell 4 16 true]⟩
theorem sa2 : zv0 Tryz.prog 17=some c17.er:=by kernel_rfl
set_option maxHeartbeats 4000000 in
theorem gl0 {P:Program}(hP:P=Tryz.prog)(t_:Table)(f:(A10 Int))(r:Decision)(h:zn0 t_ f=some r):Fn1 P 17 [uc0 t_,vn0 f] (pv0 r):=by
 refine .vz0 (hP▸sa2) fun K hK=>?_;unfold zn0 at h;cbv;refine .g h (fun v hv=>uy0 hP _ v hv) aw_ rfl (fun _=>rfl) fun v1 h=>?_;cbv;refine qf0 h ?_ ?_<;>intro h
 ·cbv;obtain rfl:=oj h;exact hK _ _ aw_
 ·cbv;refine .g h (fun _=>rfl) fun x2 h=>?_;cbv;refine .g h (fun ((Attr3,Cuts4,Kids5,Leaf6):Int×(List Int)×(List Int)×Int)=>[.top,.top,.ptr 0 0,.top,.ptr 1 0,.ptr 2 0]++rp 37 .top) (fun (Attr3,Cuts4,Kids5,Leaf6)=>[.cells [dq qk0 t_.Nodes,dq qz0 t_.Leaves] 28,.cells dz 44,.cells [oi Attr3,dq qq0 Cuts4,dq qq0 Kids5,oi Leaf6] 50]) (fun y hm Kn1 hKn1=>?_) fun t h=>?_
  ·have h:=hm;clear hm;cbv;refine .g h (fun ((Attr7,Cuts8,Kids9,Leaf10):Int×(List Int)×(List Int)×Int)=>[.top,.top,.ptr 0 0,.ptr 1 0,.ptr 2 0,.ptr 3 0]++rp 37 .top) (fun (Attr7,Cuts8,Kids9,Leaf10)=>[.cells [dq qk0 t_.Nodes,dq qz0 t_.Leaves] 28,.cells (ca f) 32,.cells dz 44,.cells [oi Attr7,dq qq0 Cuts8,dq qq0 Kids9,oi Leaf10] 50]) (.nz (.mtE [0,1,2,3] ?_)) fun s x h hr2 Kn2 hKn2=>?_
   ·exact mx
   unfold yx0 at h;obtain⟨Attr7,Cuts8,Kids9,Leaf10⟩:=s;cbv;refine qf0 h ?_ ?_<;>intro h
   ·cbv;refine .g h (fun (k11:Int)=>[.top,.top,.ptr 0 0,.ptr 1 0,.ptr 2 0,.ptr 3 0,oi k11]++rp 36 .top) (fun k11=>[.cells [dq qk0 t_.Nodes,dq qz0 t_.Leaves] 28,.cells (ca f) 32,.cells dz 44,.cells [oi Attr7,dq qq0 Cuts8,dq qq0 Kids9,oi Leaf10] 50]) (fun y hm Kn3 hKn3=>?_) fun t h=>?_
    ·have h:=hm;clear hm;cbv;refine .inl (hP▸ki2) ?_;cbv;refine .ga h (fun (_:Unit)=>rp 19 .top) (fun _=>[.cells [dq qk0 t_.Nodes,dq qz0 t_.Leaves] 28,.cells (ca f) 32,.cells dz 44,.cells [oi Attr7,dq qq0 Cuts8,dq qq0 Kids9,oi Leaf10] 50]) (fun y hm hr4 Kn4 hKn4=>?_) fun t h=>?_
     ·have h:=hm;clear hm;cbv;refine .g h (fun (v12:Int)=>[dq qq0 Cuts8,.clo (.func 44) [] [.ptr 1 0,.ptr 3 0]]++rp 5 .top++[oi (io.len (W qq0 Cuts8)),oi v12]++rp 10 .top) (fun v12=>[.cells [dq qk0 t_.Nodes,dq qz0 t_.Leaves] 28,.cells (ca f) 32,.cells dz 44,.cells [oi Attr7,dq qq0 Cuts8,dq qq0 Kids9,oi Leaf10] 50]) (.nz (.mtE [0,1,2,3] ?_)) fun s x h hr5 Kn5 hKn5=>?_
      ·exact mx
      unfold yj0 at h;obtain⟨v12,rfl⟩:=ez s;cbv;refine qf0 h ?_ ?_<;>intro h
      ·cbv;refine .g h (fun (v13:Bool)=>[dq qq0 Cuts8,.clo (.func 44) [] [.ptr 1 0,.ptr 3 0]]++rp 3 .top++[oi v12,.top,oi (io.len (W qq0 Cuts8)),oi v12]++rp 7 .top++[ob v13,.top,.top]) (fun v13=>[.cells [dq qk0 t_.Nodes,dq qz0 t_.Leaves] 28,.cells (ca f) 32,.cells dz 44,.cells [oi Attr7,dq qq0 Cuts8,dq qq0 Kids9,oi Leaf10] 50]) (fun y hm Kn6 hKn6=>?_) fun t h=>?_
       ·have h:=hm;clear hm;cbv;refine .g h (fun _=>rfl) fun x14 h=>?_;cbv;refine .inl (hP▸ke2) ?_;cbv
        refine .c10 h ?_ ?_ ?_ ?_ ?_ ?_ ?_ ?_ ?_ ?_<;>(
         intro hni15 h;cbv;obtain rfl:=oj h;exact hKn6 _ _ _ rfl (.nz (.mtE [0,1,2,3] mx))
         )
       obtain⟨v13,rfl⟩:=ez t;cbv;refine qf0 h ?_ ?_<;>intro h
       ·cbv;obtain rfl:=oj h;obtain rfl:=hr5 _ rfl;obtain rfl:=hr4 _ rfl;exact hKn3 _ _ _ rfl (.nz (.mtE [0,1,2,3] mx))
       ·cbv;obtain rfl:=oj h;exact hKn5 _ _ _ rfl (.nz (.mtE [0,1,2,3] mx))
      ·cbv;obtain rfl:=oj h;obtain rfl:=hr5 _ rfl;exact hKn4 _ _ _ rfl (.nz (.mtE [0,1,2,3] mx))
     cbv;obtain rfl:=oj h;exact hKn3 _ _ _ rfl (.nz (.mtE [0,1,2,3] mx))
    obtain⟨k11,rfl⟩:=ez t;cbv;refine .g h (fun (k16:Int)=>[.top,.top,.ptr 0 0,.ptr 1 0,.ptr 2 0,.ptr 3 0,oi k16]++rp 36 .top) (fun k16=>[.cells [dq qk0 t_.Nodes,dq qz0 t_.Leaves] 28,.cells (ca f) 32,.cells dz 44,.cells [oi Attr7,dq qq0 Cuts8,dq qq0 Kids9,oi Leaf10] 50]) (fun y hm Kn3 hKn3=>?_) fun t h=>?_
    ·have h:=hm;clear hm;cbv;refine qf0 h ?_ ?_<;>intro h
     ·cbv;obtain rfl:=oj h;exact hKn3 _ _ _ rfl (.nz (.mtE [0,1,2,3] mx))
     ·cbv;obtain rfl:=oj h;exact hKn3 _ _ _ rfl (.nz (.mtE [0,1,2,3] mx))
    obtain⟨k16,rfl⟩:=ez t;cbv;refine .g h (fun _=>rfl) fun x17 h=>?_;cbv;refine .g h (fun _=>rfl) fun x18 h=>?_;cbv;obtain rfl:=oj h;exact hKn2 _ _ _ rfl (.nz (.mtE [0,1,2,3] mx))
   ·cbv;obtain rfl:=oj h;obtain rfl:=hr2 _ rfl;exact hKn1 _ _ _ rfl (.nz (.mtE [0,2,3] mx))
  obtain⟨Attr3,Cuts4,Kids5,Leaf6⟩:=t;cbv;refine .g h (fun _=>rfl) fun x19 h=>?_;cbv;obtain rfl:=oj h;exact hK _ _ aw_
end Go.SX.Td
namespace Go.SX.Td
open Go Go.SX Go.Proofs
set_option maxRecDepth 100000
noncomputable def uh0 (v31:(A2 Int))(attr:Int)(limits:(A10 Range)):((List Int)×Int)→Option (((List Int)×Int) ⊕ ((List Int)))
 | (starts35,v36) =>
  bif (io.lt v36 2) then (
   Option.bind (
    Option.bind (
     Option.bind (ac0 2 v36) fun i39 =>
     some (v31.get i39)
     ) fun c38 =>
    Option.bind (
     Option.bind (ac0 10 attr) fun i41 =>
     bif (io.lt (limits.get i41).Lo c38) then (
      some (io.le c38 (limits.get i41).Hi)
     ) else (
      some false
     )
     ) fun v40 =>
    bif v40 then (
     Option.bind (some [c38]) fun l42 =>
     Option.bind (appG starts35 l42) fun starts43 =>
     some starts43
    ) else (
     some starts35
    )
    ) fun starts37 =>
   some (.inl (starts37,(io.ar .add .i64 v36 1)))
  ) else (
   some (.inr starts35)
  )
noncomputable def uf0 (live:(List Int))(zones:(List (A10 Range)))(attr:Int)(limits:(A10 Range)):((List Int)×Int)→Option (((List Int)×Int) ⊕ ((List Int)))
 | (starts27,v28) =>
  bif (io.lt v28 (io.len (W qq0 live))) then (
   Option.bind (
    Option.bind (zf0 live v28) fun x30 =>
    Option.bind (
     Option.bind (zf0 zones x30) fun x32 =>
     Option.bind (ac0 10 attr) fun i33 =>
     Option.bind (zf0 zones x30) fun x34 =>
     some (A2.mk (x32.get i33).Lo (io.ar .add .i64 (x34.get i33).Hi 1))
     ) fun v31 =>
    qw0 (uh0 v31 attr limits) (starts27,0)
    ) fun starts29 =>
   some (.inl (starts29,(io.ar .add .i64 v28 1)))
  ) else (
   some (.inr starts27)
  )
noncomputable def ug0 (live:(List Int))(zones:(List (A10 Range)))(attr:Int)(x73:Int):((List Int)×Int)→Option (((List Int)×Int) ⊕ ((List Int)))
 | (next77,v78) =>
  bif (io.lt v78 (io.len (W qq0 live))) then (
   Option.bind (
    Option.bind (zf0 live v78) fun x80 =>
    Option.bind (
     Option.bind (zf0 zones x80) fun x83 =>
     Option.bind (ac0 10 attr) fun i84 =>
     some ((x83.get i84).Lo,(x83.get i84).Hi)
     ) fun (Lo81,Hi82) =>
    Option.bind (
     bif (io.le Lo81 x73) then (
      some (io.le x73 Hi82)
     ) else (
      some false
     )
     ) fun v85 =>
    bif v85 then (
     Option.bind (some [x80]) fun l86 =>
     Option.bind (appG next77 l86) fun next87 =>
     some next87
    ) else (
     some next77
    )
    ) fun next79 =>
   some (.inl (next79,(io.ar .add .i64 v78 1)))
  ) else (
   some (.inr next77)
  )
noncomputable def up0 (v54:Int)(v53:(List Int))(attr:Int)(live:(List Int))(zones:(List (A10 Range)))(rec:(Int→(List Int)→(A10 Int)→(List Node)→(List Decision)→(List (ByteArray×Int))→(List (ByteArray×Int))→(List (Decision×Int))→Option (Int×(List Node)×(List Decision)×(List (ByteArray×Int))×(List (ByteArray×Int))×(List (Decision×Int))))):((List Node)×(List Decision)×(List (ByteArray×Int))×(List (ByteArray×Int))×(List (Decision×Int))×(A10 Int)×(List Int)×(List Int)×Int)→Option (((List Node)×(List Decision)×(List (ByteArray×Int))×(List (ByteArray×Int))×(List (Decision×Int))×(A10 Int)×(List Int)×(List Int)×Int) ⊕ ((List Node)×(List Decision)×(List (ByteArray×Int))×(List (ByteArray×Int))×(List (Decision×Int))×(List Int)×(List Int)))
 | (nodes56,leaves57,own58,own59,own60,f61,Cuts62,Kids63,v64) =>
  bif (io.lt v64 v54) then (
   Option.bind (
    Option.bind (zf0 v53 v64) fun x73 =>
    Option.bind (
     Option.bind (ac0 10 attr) fun i75 =>
     some (f61.put i75 x73)
     ) fun f74 =>
    Option.bind (
     qw0 (ug0 live zones attr x73) ([],0)
     ) fun next76 =>
    Option.bind (
     Option.bind (rec (io.ar .add .i64 attr 1) next76 f74 nodes56 leaves57 own58 own59 own60) fun r94 =>
     some (r94.2.1,r94.2.2.1,r94.2.2.2.1,r94.2.2.2.2.1,r94.2.2.2.2.2,r94.1)
     ) fun (nodes88,leaves89,own90,own91,own92,kid93) =>
    Option.bind (
     bif (io.lt 0 v64) then (
      Option.bind (gq0 Kids63 (io.ar .sub .i64 (io.len (W qq0 Kids63)) 1)) fun i96 =>
      Option.bind (Kids63[i96]?) fun v97 =>
      some (io.eq v97 kid93)
     ) else (
      some false
     )
     ) fun v95 =>
    bif v95 then (
     some (nodes88,leaves89,own90,own91,own92,f74,Cuts62,Kids63)
    ) else (
     Option.bind (
      bif (io.lt 0 v64) then (
       Option.bind (some [x73]) fun l99 =>
       Option.bind (appG Cuts62 l99) fun l100 =>
       some l100
      ) else (
       some Cuts62
      )
      ) fun Cuts98 =>
     Option.bind (some [kid93]) fun l101 =>
     Option.bind (appG Kids63 l101) fun l102 =>
     some (nodes88,leaves89,own90,own91,own92,f74,Cuts98,l102)
    )
    ) fun (nodes65,leaves66,own67,own68,own69,f70,Cuts71,Kids72) =>
   some (.inl (nodes65,leaves66,own67,own68,own69,f70,Cuts71,Kids72,(io.ar .add .i64 v64 1)))
  ) else (
   some (.inr (nodes56,leaves57,own58,own59,own60,Cuts62,Kids63))
  )
noncomputable def xi0 (rules:(List Rule))(limits:(A10 Range))(zones:(List (A10 Range)))(rec:(Int→(List Int)→(A10 Int)→(List Node)→(List Decision)→(List (ByteArray×Int))→(List (ByteArray×Int))→(List (Decision×Int))→Option (Int×(List Node)×(List Decision)×(List (ByteArray×Int))×(List (ByteArray×Int))×(List (Decision×Int)))))(attr:Int)(live:(List Int))(f:(A10 Int))(nodes:(List Node))(leaves:(List Decision))(kn:(List (ByteArray×Int)))(made:(List (ByteArray×Int)))(leaf:(List (Decision×Int))):Option (Int×(List Node)×(List Decision)×(List (ByteArray×Int))×(List (ByteArray×Int))×(List (Decision×Int))) :=
 bif (io.eq attr 10) then (
  Option.bind (jp0 (Policy.mk rules) f) fun v1 =>
  Option.bind (
   optG (vl0 leaf v1) (fun y4 =>
    bif (io.not true) then (
     Option.bind (some (ku0 leaf v1 (io.len (W qz0 leaves)))) fun m5 =>
     Option.bind (some [v1]) fun l6 =>
     Option.bind (appG leaves l6) fun l7 =>
     some (l7,m5)
    ) else (
     some (leaves,leaf)
    )
   ) (
    bif (io.not false) then (
     Option.bind (some (ku0 leaf v1 (io.len (W qz0 leaves)))) fun m8 =>
     Option.bind (some [v1]) fun l9 =>
     Option.bind (appG leaves l9) fun l10 =>
     some (l10,m8)
    ) else (
     some (leaves,leaf)
    )
   )
   ) fun (leaves2,own3) =>
  Option.bind (some (wc0 own3 v1 0)) fun y11 =>
  Option.bind (some [0,y11]) fun l12 =>
  Option.bind (some [[],[],l12]) fun l13 =>
  Option.bind (wq0 l13) fun v14 =>
  optG (vl0 kn v14) (fun y15 =>
   some (y15,nodes,leaves2,kn,made,own3)
  ) (
   Option.bind (some [(Node.mk 0 [] [] y11)]) fun l16 =>
   Option.bind (appG nodes l16) fun l17 =>
   Option.bind (some (ku0 kn v14 (io.ar .sub .i64 (io.len (W qk0 l17)) 1))) fun m18 =>
   some ((io.ar .sub .i64 (io.len (W qk0 l17)) 1),l17,leaves2,m18,made,own3)
  )
 ) else (
  Option.bind (some [attr]) fun l19 =>
  Option.bind (some [live,l19]) fun l20 =>
  Option.bind (wq0 l20) fun key21 =>
  optG (vl0 made key21) (fun y22 =>
   Option.bind (
    some ()
    ) fun _ =>
   some (y22,nodes,leaves,kn,made,leaf)
  ) (
   Option.bind (
    some ()
    ) fun _ =>
   bif (io.lt 20000 (io.len (W qk0 nodes))) then (
    some (0,nodes,leaves,kn,made,leaf)
   ) else (
    Option.bind (
     Option.bind (ac0 10 attr) fun i24 =>
     Option.bind (some [(limits.get i24).Lo]) fun starts25 =>
     some starts25
     ) fun starts23 =>
    Option.bind (
     qw0 (uf0 live zones attr limits) (starts23,0)
     ) fun starts26 =>
    Option.bind (
     Option.bind (sr1 starts26) fun l45 =>
     some l45
     ) fun starts44 =>
    Option.bind (
     Option.bind (
      Option.bind (mq1 starts44) fun l55 =>
      some (l55,(io.len (W qq0 l55)))
      ) fun (v53,v54) =>
     qw0 (up0 v54 v53 attr live zones rec) (nodes,leaves,kn,made,leaf,f,[],[],0)
     ) fun (nodes46,leaves47,own48,own49,own50,Cuts51,Kids52) =>
    Option.bind (gq0 Kids52 0) fun i103 =>
    Option.bind (Kids52[i103]?) fun v104 =>
    Option.bind (
     bif (io.lt 1 (io.len (W qq0 Kids52))) then (
      Option.bind (some [attr,0]) fun l108 =>
      Option.bind (some [Cuts51,Kids52,l108]) fun l109 =>
      Option.bind (wq0 l109) fun v110 =>
      optG (vl0 own48 v110) (fun y111 =>
       some (nodes46,own48,y111)
      ) (
       Option.bind (some [(Node.mk attr Cuts51 Kids52 0)]) fun l112 =>
       Option.bind (appG nodes46 l112) fun l113 =>
       Option.bind (some (ku0 own48 v110 (io.ar .sub .i64 (io.len (W qk0 l113)) 1))) fun m114 =>
       some (l113,m114,(io.ar .sub .i64 (io.len (W qk0 l113)) 1))
      )
     ) else (
      some (nodes46,own48,v104)
     )
     ) fun (nodes105,own106,out107) =>
    Option.bind (some (ku0 own49 key21 out107)) fun m115 =>
    some (out107,nodes105,leaves47,own106,m115,own50)
   )
  )
 )
noncomputable def py0 (rules:(List Rule))(limits:(A10 Range))(zones:(List (A10 Range))):Nat→Int→(List Int)→(A10 Int)→(List Node)→(List Decision)→(List (ByteArray×Int))→(List (ByteArray×Int))→(List (Decision×Int))→Option (Int×(List Node)×(List Decision)×(List (ByteArray×Int))×(List (ByteArray×Int))×(List (Decision×Int)))
 | 0,_,_,_,_,_,_,_,_=>none
 | n+1,attr,live,f,nodes,leaves,kn,made,leaf=>xi0 rules limits zones (py0 rules limits zones n) attr live f nodes leaves kn made leaf
end Go.SX.Td
namespace Go.SX.Td
open Go Go.SX Go.Proofs
set_option maxRecDepth 100000
noncomputable def kq0 (p:Policy):((List (A10 Range))×Int)→Option (((List (A10 Range))×Int) ⊕ ((List (A10 Range))))
 | (zones4,v5) =>
 bif (io.lt v5 (io.len (W qp0 p.Rules))) then (
 Option.bind (zf0 p.Rules v5) fun x6 =>
 Option.bind (appG zones4 x6.Zones) fun l7 =>
 some (.inl (l7,(io.ar .add .i64 v5 1)))
 ) else (
 some (.inr zones4)
 )
noncomputable def ju0 (l8:(List Int)):((List Int)×Int)→Option (((List Int)×Int) ⊕ ((List Int)))
 | (all10,v11) =>
 bif (io.lt v11 (io.len (W qq0 l8))) then (
 Option.bind (gq0 all10 v11) fun i12 =>
 Option.bind (cp1 all10 i12 fun y13=>v11) fun l14 =>
 some (.inl (l14,(io.ar .add .i64 v11 1)))
 ) else (
 some (.inr all10)
 )
noncomputable def yl0 (v35:Node)(number22:(List (Int×Int))):((List Int)×Int)→Option (((List Int)×Int) ⊕ ((List Int)))
 | (Kids42,v43) =>
 bif (io.lt v43 (io.len (W qq0 v35.Kids))) then (
 Option.bind (zf0 v35.Kids v43) fun x44 =>
 Option.bind (some (wc0 number22 x44 0)) fun y45 =>
 Option.bind (some [y45]) fun l46 =>
 Option.bind (appG Kids42 l46) fun l47 =>
 some (.inl (l47,(io.ar .add .i64 v43 1)))
 ) else (
 some (.inr Kids42)
 )
noncomputable def yt0 (order23:(List Int))(nodes15:(List Node))(leaves16:(List Decision))(number22:(List (Int×Int))):((List Node)×(List Decision)×Int)→Option (((List Node)×(List Decision)×Int) ⊕ ((List Node)×(List Decision)))
 | (Nodes27,Leaves28,v29) =>
 bif (io.lt v29 (io.len (W qq0 order23))) then (
 Option.bind (
 Option.bind (gq0 order23 v29) fun ix32 =>
 Option.bind (order23[ix32]?) fun v33 =>
 Option.bind (gq0 nodes15 v33) fun i34 =>
 Option.bind (nodes15[i34]?) fun v35 =>
 Option.bind (
 bif (io.eq (io.len (W qq0 v35.Kids)) 0) then (
 Option.bind (zf0 leaves16 v35.Leaf) fun x38 =>
 Option.bind (some [x38]) fun l39 =>
 Option.bind (appG Leaves28 l39) fun l40 =>
 some (l40,(io.ar .sub .i64 (io.len (W qz0 l40)) 1))
 ) else (
 some (Leaves28,v35.Leaf)
 )
 ) fun (Leaves36,Leaf37) =>
 Option.bind (
 qw0 (yl0 v35 number22) ([],0)
 ) fun Kids41 =>
 Option.bind (some [(Node.mk v35.Attr v35.Cuts Kids41 Leaf37)]) fun l48 =>
 Option.bind (appG Nodes27 l48) fun l49 =>
 some (l49,Leaves36)
 ) fun (Nodes30,Leaves31) =>
 some (.inl (Nodes30,Leaves31,(io.ar .add .i64 v29 1)))
 ) else (
 some (.inr (Nodes27,Leaves28))
 )
noncomputable def zi0 (p:Policy):Option (Table×Int) :=
 Option.bind (vg0 p) fun v1 =>
 bif (io.not v1) then (
 some ((Table.mk [] []),1)
 ) else (
 Option.bind (zo0) fun v2 =>
 Option.bind (
 qw0 (kq0 p) ([],0)
 ) fun zones3 =>
 Option.bind (cu1 (io.len (W qj0 zones3)) (0:Int)) fun l8 =>
 Option.bind (
 qw0 (ju0 l8) (l8,0)
 ) fun all9 =>
 Option.bind (
 Option.bind (py0 p.Rules v2 zones3 11 0 all9 (A10.mk 0 0 0 0 0 0 0 0 0 0) ([]:(List Node)) ([]:(List Decision)) ([]:(List (ByteArray×Int))) ([]:(List (ByteArray×Int))) ([]:(List (Decision×Int)))) fun r21 =>
 some (r21.2.1,r21.2.2.1,r21.2.2.2.1,r21.2.2.2.2.1,r21.2.2.2.2.2,r21.1)
 ) fun (nodes15,leaves16,known17,made18,leaf19,root20) =>
 bif (io.lt 20000 (io.len (W qk0 nodes15))) then (
 some ((Table.mk [] []),3)
 ) else (
 Option.bind (
 Option.bind (walkT nodes15 11 root20 ([]:(List (Int×Bool))) ([]:(List Int)) ([]:(List (Int×Int)))) fun r24 =>
 some (r24.2.2,r24.2.1)
 ) fun (number22,order23) =>
 Option.bind (
 qw0 (yt0 order23 nodes15 leaves16 number22) ([],[],0)
 ) fun (Nodes25,Leaves26) =>
 some ((Table.mk Nodes25 Leaves26),0)
 )
 )
end Go.SX.Td
namespace Go.SX.Td
open Go Go.SX Go.Proofs
set_option maxRecDepth 100000
noncomputable def uj0 : Option (Bool) :=
 Option.bind (zo0) fun v1 =>
 Option.bind (kl0 2 (Range.mk 1 1)) fun v2 =>
 Option.bind (kd0 1 (⟨#[97]⟩) 0 v2) fun v3 =>
 Option.bind (kd0 3 (⟨#[112]⟩) 100 v1) fun v4 =>
 Option.bind (kl0 1 (Range.mk 0 17)) fun v5 =>
 Option.bind (kd0 2 (⟨#[100]⟩) 0 v5) fun v6 =>
 Option.bind (zi0 (Policy.mk [])) fun v7 =>
 Option.bind (kd0 1 (⟨#[97]⟩) 0 v1) fun v8 =>
 Option.bind (some [v8,v4]) fun l9 =>
 Option.bind (zi0 (Policy.mk l9)) fun v10 =>
 Option.bind (some [v3,v4]) fun l11 =>
 Option.bind (zi0 (Policy.mk l11)) fun v12 =>
 Option.bind (some [v3,v4,v6]) fun l13 =>
 Option.bind (zi0 (Policy.mk l13)) fun v14 =>
 Option.bind (some [(Rule.mk 0 (⟨#[]⟩) [] 0 (Ratio.mk 0 0) (Ratio.mk 0 0))]) fun l15 =>
 Option.bind (zi0 (Policy.mk l15)) fun v16 =>
 Option.bind (
 bif (io.not (io.eq v7.2 0)) then (
 some true
 ) else (
 bif (io.not (io.eq v10.2 0)) then (
 some true
 ) else (
 bif (io.not (io.eq v12.2 0)) then (
 some true
 ) else (
 bif (io.not (io.eq v14.2 0)) then (
 some true
 ) else (
 bif (io.not (io.eq v16.2 1)) then (
 some true
 ) else (
 bif (io.not (io.eq (io.len (W qk0 v7.1.Nodes)) 1)) then (
 some true
 ) else (
 bif (io.not (io.eq (io.len (W qk0 v10.1.Nodes)) 1)) then (
 some true
 ) else (
 bif (io.not (io.eq (io.len (W qk0 v12.1.Nodes)) 3)) then (
 some true
 ) else (
 some (io.not (io.eq (io.len (W qk0 v14.1.Nodes)) 5))
 )
 )
 )
 )
 )
 )
 )
 )
 ) fun v17 =>
 bif v17 then (
 some false
 ) else (
 Option.bind (
 Option.bind (zf0 v7.1.Leaves 0) fun x19 =>
 bif (io.not x19.Allowed) then (
 Option.bind (zf0 v10.1.Leaves 0) fun x20 =>
 bif x20.Allowed then (
 Option.bind (zf0 v10.1.Leaves 0) fun x21 =>
 bif (io.eq x21.Price 100) then (
 Option.bind (zf0 v12.1.Nodes 0) fun x22 =>
 Option.bind (some [1]) fun l23 =>
 Option.bind (some [1,2]) fun l24 =>
 Option.bind (wh0 x22 (Node.mk 2 l23 l24 0)) fun v25 =>
 bif v25 then (
 Option.bind (zf0 v14.1.Nodes 0) fun x26 =>
 Option.bind (some [18]) fun l27 =>
 Option.bind (some [1,2]) fun l28 =>
 Option.bind (wh0 x26 (Node.mk 1 l27 l28 0)) fun v29 =>
 some v29
 ) else (
 some false
 )
 ) else (
 some false
 )
 ) else (
 some false
 )
 ) else (
 some false
 )
 ) fun one18 =>
 bif one18 then (
 Option.bind (zn0 v14.1 (A10.mk 0 30 1 0 0 0 0 0 1 0)) fun v30 =>
 bif v30.Allowed then (
 Option.bind (zn0 v12.1 (A10.mk 0 0 0 0 0 0 0 0 0 0)) fun v31 =>
 bif (io.not v31.Allowed) then (
 Option.bind (qu0 v14.1) fun v32 =>
 bif v32 then (
 Option.bind (qu0 (Table.mk [] [])) fun v33 =>
 some (io.not v33)
 ) else (
 some false
 )
 ) else (
 some false
 )
 ) else (
 some false
 )
 ) else (
 some false
 )
 )
end Go.SX.Td
namespace Go.SX.Td
open Go Go.SX Go.Proofs
set_option maxRecDepth 100000
noncomputable def zu0 (p:Policy)(t_:Table)(f:(A10 Int)):Option (Bool) :=
 Option.bind (uj0) fun up1 =>
 Option.bind (
 Option.bind (un0 p) fun v3 =>
 bif (io.not v3) then (
 some true
 ) else (
 Option.bind (vr0 t_) fun v4 =>
 some (io.not v4)
 )
 ) fun v2 =>
 bif v2 then (
 some up1
 ) else (
 Option.bind (zi0 p) fun v5 =>
 Option.bind (jd0 p) fun v6 =>
 bif up1 then (
 bif (io.eq v5.2 v6.2) then (
 Option.bind (jf0 v5.1 v6.1) fun v7 =>
 bif v7 then (
 Option.bind (qu0 t_) fun v8 =>
 Option.bind (wn0 t_) fun v9 =>
 bif (io.beq false v8 v9) then (
 Option.bind (zn0 t_ f) fun v10 =>
 Option.bind (yg0 t_ f) fun v11 =>
 some (jb0 v10 v11)
 ) else (
 some false
 )
 ) else (
 some false
 )
 ) else (
 some false
 )
 ) else (
 some false
 )
 )
end Go.SX.Td
