/- Parts of the proof. -/
import Derived.Test.YtllbabjgpdmblaaGreatDoorZTdT
import Derived.Test.YtllbabjgpdmblaaGreatDoorZTd26d
import Derived.Test.YtllbabjgpdmblaaGreatDoorZTd49
set_option linter.unusedSimpArgs false
set_option linter.unusedVariables false
set_option linter.unusedSectionVars false
namespace Go.SX.Td
open Go Go.SX Go.Proofs
set_option maxRecDepth 100000
def zk3 : List GOp:=gS 5 [.box 58 2]
def zx3 : List GOp:=gS 6 [.mv 0,.nilck 6,.fadd 19 7,.load 1 false 8,.bin .lss 9 (ci 0)]
def zj3 : List GOp:=gS 11 [.mv 0,.mv 1,.nilck 11,.fadd 19 13]++[⟨none,.store 1 14 12,none⟩]
def zz3 : List GOp:=gS 15 [.fadd 3 5,.load 1 false 15,.bin .gtr 16 (ci 0),.mv 17]++gQ 18 true 19 [.mv 0,.nilck 19,.fadd 0 20,.fadd 3 21,.load 1 false 22,.bin .eql 23 (ci 0),.mv 24]++gQ 25 false 26 [.fadd 3 5,.load 1 false 26,.mv 0,.nilck 28,.fadd 0 29,.fadd 3 30,.load 1 false 31,.bin .lss 27 32]++gQ 18 true 34 [.pick 25 (cB true) 33]++gS 35 [.pick 18 34 (cB false)]
def zq3 : List GOp:=gS 36 [.mv 0,.fadd 3 5,.load 1 false 37,.nilck 36,.fadd 0 39,.fadd 3 40]++[⟨none,.store 1 41 38,none⟩]
def c61 : EFn:=⟨42,.seq (.reg zk3) (.join (.seq (.reg zx3) (.cond 10 (.reg zj3) (.skip))) (.join (.par true true true 18 zz3) (.cond 35 (.reg zq3) (.skip)))),[]⟩
theorem kw2 : zv0 Tryz.prog 61=some c61.er:=by kernel_rfl
def qu3 : List GOp:=gS 5 [.box 58 2]
def qo3 : List GOp:=gS 6 [.mv 0,.nilck 6,.fadd 20 7,.load 1 false 8,.bin .lss 9 (ci 0)]
def qi3 : List GOp:=gS 11 [.mv 0,.mv 1,.nilck 11,.fadd 20 13]++[⟨none,.store 1 14 12,none⟩]
def c62 : EFn:=⟨15,.seq (.reg qu3) (.seq (.reg qo3) (.cond 10 (.reg qi3) (.skip))),[]⟩
theorem kv2 : zv0 Tryz.prog 62=some c62.er:=by kernel_rfl
def qe3 : List GOp:=gS 5 [.box 58 2]
def qa3 : List GOp:=gS 6 [.mv 0,.nilck 6,.fadd 16 7,.load 1 false 8,.un .not 9]
def qr3 : List GOp:=gS 11 [.mv 0,.mv 0,.mv 0,.mv 0,.fadd 3 5,.load 1 false 15,.fadd 4 5,.load 2 true 17,.fadd 6 5,.load 2 true 19,.nilck 11,.fadd 16 21]++[⟨none,.store 1 22 (cB true),none⟩]++gS 23 [.nilck 12,.fadd 0 23,.fadd 4 24]++[⟨none,.store 1 25 16,none⟩]++gS 26 [.nilck 13,.fadd 0 26,.fadd 5 27]++[⟨none,.store 2 28 18,none⟩]++gS 29 [.nilck 14,.fadd 0 29,.fadd 7 30]++[⟨none,.store 2 31 20,none⟩]
def c63 : EFn:=⟨32,.seq (.reg qe3) (.seq (.reg qa3) (.cond 10 (.hys true true 21 qr3) (.skip))),[]⟩
theorem kk2 : zv0 Tryz.prog 63=some c63.er:=by kernel_rfl
def qn3 : List GOp:=gS 5 [.box 58 2]
def qs3 : List GOp:=gS 6 [.mv 0,.nilck 6,.fadd 17 7,.load 1 false 8,.un .not 9]
def qt3 : List GOp:=gS 11 [.mv 0,.mv 0,.mv 0,.fadd 4 5,.load 2 true 14,.fadd 6 5,.load 2 true 16,.nilck 11,.fadd 17 18]++[⟨none,.store 1 19 (cB true),none⟩]++gS 20 [.nilck 12,.fadd 0 20,.fadd 9 21]++[⟨none,.store 2 22 15,none⟩]++gS 23 [.nilck 13,.fadd 0 23,.fadd 11 24]++[⟨none,.store 2 25 17,none⟩]
def c64 : EFn:=⟨26,.seq (.reg qn3) (.seq (.reg qs3) (.cond 10 (.hys true true 14 qt3) (.skip))),[]⟩
theorem kx2 : zv0 Tryz.prog 64=some c64.er:=by kernel_rfl
def ql3 : List GOp:=gS 5 [.box 58 2]
def qd3 : List GOp:=gS 6 [.mv 0,.nilck 6,.fadd 18 7,.load 1 false 8,.un .not 9]
def qm3 : List GOp:=gS 11 [.mv 0,.mv 0,.fadd 4 5,.load 2 true 13,.nilck 11,.fadd 18 15]++[⟨none,.store 1 16 (cB true),none⟩]++gS 17 [.nilck 12,.fadd 0 17,.fadd 13 18]++[⟨none,.store 2 19 14,none⟩]
def c65 : EFn:=⟨20,.seq (.reg ql3) (.seq (.reg qd3) (.cond 10 (.hys true true 7 qm3) (.skip))),[]⟩
theorem kj2 : zv0 Tryz.prog 65=some c65.er:=by kernel_rfl
def qf3 : List GOp:=gS 4 [.box 58 1]
def qh3 : List GOp:=gS 5 [.load 1 false 2,.nilck 5,.fadd 0 6,.fadd 1 7]++[⟨none,.store 1 8 (cB true),none⟩]
def c66 : EFn:=⟨9,.seq (.reg qf3) (.reg qh3),[]⟩
theorem kz2 : zv0 Tryz.prog 66=some c66.er:=by kernel_rfl
def qp3 : List GOp:=gS 4 [.box 58 1]
def qg3 : List GOp:=gS 5 [.load 1 false 2,.nilck 5,.fadd 0 6,.fadd 2 7]++[⟨none,.store 1 8 (cB true),none⟩]
def c67 : EFn:=⟨9,.seq (.reg qp3) (.reg qg3),[]⟩
theorem kq2 : zv0 Tryz.prog 67=some c67.er:=by kernel_rfl
def xj3 : List GOp:=gS 2 [.box 24 0,.box 32 1,.alloc 44 (.agg #[(.bool false),(.bool false),(.bool false),oz,oz,oz,oz,oz,oz,oz,oz,oz,oz,oz,oz,oz])]
def xz3 : List GOp:=gS 11 [.build (.agg #[oz,oz]) [((1,1),(ci 1))]]++gS 5 [.alloc 42 (.agg #[oz,oz])]++[⟨none,.store 2 5 11,none⟩]
def xq3 : List GOp:=gS 12 [.load 2 true 5,.load 2 true 5,.load 2 true 5,.load 2 true 5,.load 2 true 5,.build (.agg #[(.bool false),(.bool false),(.bool false),oz,oz,oz,oz,oz,oz,oz,oz,oz,oz,oz,oz,oz]) [((5,2),12),((7,2),13),((9,2),14),((11,2),15),((13,2),16)],.build (.agg #[(.bool false),(.bool false),(.bool false),oz,oz,oz,oz,oz,oz,oz,oz,oz,oz,oz,oz,oz,(.bool false),(.bool false),(.bool false),oz,oz]) [((19,1),(ci (-1))),((20,1),(ci (-1))),((0,16),17)],.box 111 18]++gS 6 [.alloc 109 (.pointer none)]++[⟨none,.store 1 6 19,none⟩]
def vu3 : List GOp:=gS 20 [.mkf (.int .i64),.load 1 false 6,.mkfn (.func 61) [21] []]++[⟨none,.mset (.int .i64) false 20 (ci 1) 22,none⟩]++gS 23 [.load 1 false 6,.mkfn (.func 62) [23] []]++[⟨none,.mset (.int .i64) false 20 (ci 2) 24,none⟩]++gS 25 [.load 1 false 6,.mkfn (.func 63) [25] []]++[⟨none,.mset (.int .i64) false 20 (ci 3) 26,none⟩]++gS 27 [.load 1 false 6,.mkfn (.func 64) [27] []]++[⟨none,.mset (.int .i64) false 20 (ci 4) 28,none⟩]++gS 29 [.load 1 false 6,.mkfn (.func 65) [29] []]++[⟨none,.mset (.int .i64) false 20 (ci 5) 30,none⟩]++gS 31 [.mkfn (.func 66) [] [6]]++[⟨none,.mset (.int .i64) false 20 (ci 6) 31,none⟩]++gS 32 [.mkfn (.func 67) [] [6]]++[⟨none,.mset (.int .i64) false 20 (ci 7) 32,none⟩]++gS 33 [.mv 20]++gS 7 [.mv 33]
def vo3 : List GOp:=gS 34 [.fadd 0 2,.load 1 false 34,.len false 35,.mv (ci 0)]
def vi3 : List GOp:=gS 38 [.bin .lss 37 36]
def ve3 : List GOp:=gS 39 [.mv 37,.idxA 8 35 37,.load 8 true 40]++gS 9 [.alloc 58 (.agg #[oz,(.string ⟨#[]⟩),(.slice none 0 0),oz,oz,oz,oz,oz])]++gS 8 [.mv 39]++[⟨none,.store 8 9 41,none⟩]
def va3 : List GOp:=gS 42 [.mv 7,.fadd 0 9,.load 1 false 43,.fo0 (.int .i64) false false .nilFunc 42 44]++gS 10 [.mv 45]
def vr3 : List GOp:=gS 46 [.mv 10,.fnil true 46 (.const .nilFunc),.mv 47]++gQ 48 true 49 [.load 8 true 9,.load 10 true 3,.call 68 [49,50]]++gS 52 [.pick 48 51 (cB false)]
def vn3 : List GOp:=gS 53 [.mv 10,.mv 8,.load 8 true 9,.callv 53 [54,55]]
def gv2 : List GOp:=gS 57 [.bin .add 37 (ci 1)]++gS 37 [.mv 57]
def gw2 : DE:=.seq (.reg vi3) (.seq (.cond 38 (.skip) (.exit 0)) (.join (.block 1 (.seq (.reg ve3) (.seq (.reg va3) (.join (.reg vr3) (.cond 52 (.reg vn3) (.skip)))))) (.reg gv2)))
def gk2 : List GOp:=gS 58 [.load 1 false 6,.load 1 false 6,.nilck 59,.fadd 19 60,.load 1 false 61,.bin .geq 62 (ci 0),.mv 63]++gQ 64 true 65 [.load 1 false 6,.nilck 65,.fadd 16 66,.load 1 false 67]++gS 69 [.pick 64 68 (cB false),.mv 69]++gQ 70 true 71 [.load 1 false 6,.nilck 71,.fadd 20 72,.load 1 false 73,.bin .lss 74 (ci 0)]++gS 76 [.pick 70 75 (cB false),.nilck 58,.fadd 0 77,.fadd 0 78]
def qj2 : GOp:=⟨none,.store 1 79 76,none⟩
def gx2 : List GOp:=gS 80 [.load 1 false 6,.load 1 false 6,.nilck 81,.fadd 19 82,.load 1 false 83,.nilck 80,.fadd 0 85,.fadd 15 86]
def qz2 : GOp:=⟨none,.store 1 87 84,none⟩
def gj2 : List GOp:=gS 88 [.load 1 false 6,.nilck 88,.fadd 20 89,.load 1 false 90,.bin .geq 91 (ci 0)]
def gz2 : List GOp:=gS 93 [.load 1 false 6,.load 1 false 6,.nilck 94,.fadd 20 95,.load 1 false 96,.nilck 93,.fadd 0 98,.fadd 15 99]
def ou1 : GOp:=⟨none,.store 1 100 97,none⟩
def gq2 : List GOp:=gS 101 [.load 1 false 6,.nilck 101,.fadd 0 102,.load 16 true 103]++[⟨none,.store 16 4 104,none⟩]
def c31 : EFn:=⟨105,.seq (.reg xj3) (.seq (.reg xz3) (.seq (.reg xq3) (.seq (.reg vu3) (.join (.seq (.reg vo3) (.block 0 (.loop gw2))) (.join (.hyl true true 19 gk2 qj2) (.seq (.hyl true true 5 gx2 qz2) (.join (.seq (.reg gj2) (.cond 92 (.hyl true true 5 gz2 ou1) (.skip))) (.seq (.reg gq2) (.ret))))))))),[.cell 4 16 true]⟩
theorem gy2 : zv0 Tryz.prog 31=some c31.er:=by kernel_rfl
set_option maxHeartbeats 4000000 in
theorem ro0 {P:Program}(hP:P=Tryz.prog)(p:Policy)(f:(A10 Int))(r:Decision)(h:jp0 p f=some r):Fn1 P 31 [ud0 p,vn0 f] (pv0 r):=by
 refine .vz0 (hP▸gy2) fun K hK=>?_;unfold jp0 at h;cbv;refine .g h (fun ((Together1,Single2,Limit3,Price4,Num5,Den6,Num7,Den8,Num9,Den10,Num11,Den12,Num13,Den14,priced15,sold16,back17,allowed18,denied19):Bool×Bool×Int×Int×Int×Int×Int×Int×Int×Int×Int×Int×Int×Int×Bool×Bool×Bool×Int×Int)=>rp 4 .top++[.ptr 0 0,.top,.ptr 1 0]++rp 98 .top) (fun (Together1,Single2,Limit3,Price4,Num5,Den6,Num7,Den8,Num9,Den10,Num11,Den12,Num13,Den14,priced15,sold16,back17,allowed18,denied19)=>[.cells dz 44,.cells [.ptr 2 0] 109,.cells [ob false,ob Together1,ob Single2,oi Limit3,oi Price4,oi Num5,oi Den6,oi Num7,oi Den8,oi Num9,oi Den10,oi Num11,oi Den12,oi Num13,oi Den14,oi 0,ob priced15,ob sold16,ob back17,oi allowed18,oi denied19] 111]) (fun y hm Kn1 hKn1=>?_) fun t h=>?_
 ·have h:=hm;clear hm;cbv;refine .g h (fun ((Together20,Single21,Limit22,Price23,Num24,Den25,Num26,Den27,Num28,Den29,Num30,Den31,Num32,Den33,priced34,sold35,back36,allowed37,denied38,v39):Bool×Bool×Int×Int×Int×Int×Int×Int×Int×Int×Int×Int×Int×Int×Bool×Bool×Bool×Int×Int×Int)=>rp 3 .top++[.ptr 0 0,.ptr 1 0,.top,.ptr 2 0,.hd 4]++rp 27 .top++[dq qp0 p.Rules,oi (io.len (W qp0 p.Rules)),oi v39]++rp 67 .top) (fun (Together20,Single21,Limit22,Price23,Num24,Den25,Num26,Den27,Num28,Den29,Num30,Den31,Num32,Den33,priced34,sold35,back36,allowed37,denied38,v39)=>[.cells (ca f) 32,.cells dz 44,.cells [.ptr 3 0] 109,.cells [ob false,ob Together20,ob Single21,oi Limit22,oi Price23,oi Num24,oi Den25,oi Num26,oi Den27,oi Num28,oi Den29,oi Num30,oi Den31,oi Num32,oi Den33,oi 0,ob priced34,ob sold35,ob back36,oi allowed37,oi denied38] 111,.mpf (.int .i64) [((Value.int .i64) 1,.clo (.func 61) [.ptr 3 0] []),((Value.int .i64) 2,.clo (.func 62) [.ptr 3 0] []),((Value.int .i64) 3,.clo (.func 63) [.ptr 3 0] []),((Value.int .i64) 4,.clo (.func 64) [.ptr 3 0] []),((Value.int .i64) 5,.clo (.func 65) [.ptr 3 0] []),((Value.int .i64) 6,.clo (.func 66) [] [.ptr 2 0]),((Value.int .i64) 7,.clo (.func 67) [] [.ptr 2 0])]]) (.nz (.mtE [1,2,5,4,6] ?_)) fun s x h hr2 Kn2 hKn2=>?_
  ·exact mx
  unfold jo0 at h;obtain⟨Together20,Single21,Limit22,Price23,Num24,Den25,Num26,Den27,Num28,Den29,Num30,Den31,Num32,Den33,priced34,sold35,back36,allowed37,denied38,v39⟩:=s;cbv;refine qf0 h ?_ ?_<;>intro h
  ·cbv;refine .g h (fun ((Together40,Single41,Limit42,Price43,Num44,Den45,Num46,Den47,Num48,Den49,Num50,Den51,Num52,Den53,priced54,sold55,back56,allowed57,denied58):Bool×Bool×Int×Int×Int×Int×Int×Int×Int×Int×Int×Int×Int×Int×Bool×Bool×Bool×Int×Int)=>rp 3 .top++[.ptr 0 0,.ptr 1 0,.top,.ptr 2 0,.hd 4]++rp 27 .top++[dq qp0 p.Rules,oi (io.len (W qp0 p.Rules)),oi v39]++rp 67 .top) (fun (Together40,Single41,Limit42,Price43,Num44,Den45,Num46,Den47,Num48,Den49,Num50,Den51,Num52,Den53,priced54,sold55,back56,allowed57,denied58)=>[.cells (ca f) 32,.cells dz 44,.cells [.ptr 3 0] 109,.cells [ob false,ob Together40,ob Single41,oi Limit42,oi Price43,oi Num44,oi Den45,oi Num46,oi Den47,oi Num48,oi Den49,oi Num50,oi Den51,oi Num52,oi Den53,oi 0,ob priced54,ob sold55,ob back56,oi allowed57,oi denied58] 111,.mpf (.int .i64) [((Value.int .i64) 1,.clo (.func 61) [.ptr 3 0] []),((Value.int .i64) 2,.clo (.func 62) [.ptr 3 0] []),((Value.int .i64) 3,.clo (.func 63) [.ptr 3 0] []),((Value.int .i64) 4,.clo (.func 64) [.ptr 3 0] []),((Value.int .i64) 5,.clo (.func 65) [.ptr 3 0] []),((Value.int .i64) 6,.clo (.func 66) [] [.ptr 2 0]),((Value.int .i64) 7,.clo (.func 67) [] [.ptr 2 0])]]) (fun y hm Kn3 hKn3=>?_) fun t h=>?_
   ·have h:=hm;clear hm;cbv;refine .g h (fun _=>rfl) fun x59 h=>?_;cbv;refine qf0 h ?_ ?_<;>intro h
    ·cbv;refine .g h (fun (v60:Bool)=>rp 3 .top++[.ptr 0 0,.ptr 1 0,.top,.ptr 2 0,.hd 4,oi v39,.ptr 5 0,.clo (.func 61) [.ptr 3 0] []]++rp 24 .top++[dq qp0 p.Rules,oi (io.len (W qp0 p.Rules)),oi v39]++rp 14 .top++[ob v60]++rp 52 .top) (fun v60=>[.cells (ca f) 32,.cells dz 44,.cells [.ptr 3 0] 109,.cells [ob false,ob Together20,ob Single21,oi Limit22,oi Price23,oi Num24,oi Den25,oi Num26,oi Den27,oi Num28,oi Den29,oi Num30,oi Den31,oi Num32,oi Den33,oi 0,ob priced34,ob sold35,ob back36,oi allowed37,oi denied38] 111,.mpf (.int .i64) [((Value.int .i64) 1,.clo (.func 61) [.ptr 3 0] []),((Value.int .i64) 2,.clo (.func 62) [.ptr 3 0] []),((Value.int .i64) 3,.clo (.func 63) [.ptr 3 0] []),((Value.int .i64) 4,.clo (.func 64) [.ptr 3 0] []),((Value.int .i64) 5,.clo (.func 65) [.ptr 3 0] []),((Value.int .i64) 6,.clo (.func 66) [] [.ptr 2 0]),((Value.int .i64) 7,.clo (.func 67) [] [.ptr 2 0])],.cells [oi x59.Kind,.d (.val (.string x59.Name)),dq qj0 x59.Zones,oi x59.N,oi x59.R.Num,oi x59.R.Den,oi x59.S.Num,oi x59.S.Den] 58]) (fun y hm Kn4 hKn4=>?_) fun t h=>?_
     ·have h:=hm;clear hm;cbv;refine .g h (fun v hv=>ym0 hP _ _ v hv) aw_ rfl (fun _=>rfl) fun v61 h=>?_;cbv;obtain rfl:=oj h;exact hKn4 _ _ _ rfl (.nz (.mtE [0,1,2,3,4,5] mx))
     obtain⟨v60,rfl⟩:=ez t;cbv;refine qf0 h ?_ ?_<;>intro h
     ·cbv;refine .inl (hP▸kw2) ?_;cbv;refine .g h (fun (allowed62:Int)=>[.ptr 3 0]++rp 4 .top++[.ptr 6 0]++rp 36 .top) (fun allowed62=>[.cells (ca f) 32,.cells dz 44,.cells [.ptr 3 0] 109,.cells [ob false,ob Together20,ob Single21,oi Limit22,oi Price23,oi Num24,oi Den25,oi Num26,oi Den27,oi Num28,oi Den29,oi Num30,oi Den31,oi Num32,oi Den33,oi 0,ob priced34,ob sold35,ob back36,oi allowed62,oi denied38] 111,.mpf (.int .i64) [((Value.int .i64) 1,.clo (.func 61) [.ptr 3 0] []),((Value.int .i64) 2,.clo (.func 62) [.ptr 3 0] []),((Value.int .i64) 3,.clo (.func 63) [.ptr 3 0] []),((Value.int .i64) 4,.clo (.func 64) [.ptr 3 0] []),((Value.int .i64) 5,.clo (.func 65) [.ptr 3 0] []),((Value.int .i64) 6,.clo (.func 66) [] [.ptr 2 0]),((Value.int .i64) 7,.clo (.func 67) [] [.ptr 2 0])],.cells [oi x59.Kind,.d (.val (.string x59.Name)),dq qj0 x59.Zones,oi x59.N,oi x59.R.Num,oi x59.R.Den,oi x59.S.Num,oi x59.S.Den] 58,.cells [oi x59.Kind,.d (.val (.string x59.Name)),dq qj0 x59.Zones,oi x59.N,oi x59.R.Num,oi x59.R.Den,oi x59.S.Num,oi x59.S.Den] 58]) (fun y hm Kn4 hKn4=>?_) fun t h=>?_
      ·have h:=hm;clear hm;cbv;refine qf0 h ?_ ?_<;>intro h
       ·cbv;obtain rfl:=oj h;exact hKn4 _ _ _ rfl (.nz (.mtE [0,1,2,3,4,5,6] mx))
       ·cbv;obtain rfl:=oj h;exact hKn4 _ _ _ rfl (.nz (.mtE [0,1,2,3,4,5,6] mx))
      obtain⟨allowed62,rfl⟩:=ez t;cbv;refine .g h (fun (v63:Bool)=>[.ptr 3 0]++rp 4 .top++[.ptr 6 0]++rp 29 .top++[ob v63]++rp 6 .top) (fun v63=>[.cells (ca f) 32,.cells dz 44,.cells [.ptr 3 0] 109,.cells [ob false,ob Together20,ob Single21,oi Limit22,oi Price23,oi Num24,oi Den25,oi Num26,oi Den27,oi Num28,oi Den29,oi Num30,oi Den31,oi Num32,oi Den33,oi 0,ob priced34,ob sold35,ob back36,oi allowed62,oi denied38] 111,.mpf (.int .i64) [((Value.int .i64) 1,.clo (.func 61) [.ptr 3 0] []),((Value.int .i64) 2,.clo (.func 62) [.ptr 3 0] []),((Value.int .i64) 3,.clo (.func 63) [.ptr 3 0] []),((Value.int .i64) 4,.clo (.func 64) [.ptr 3 0] []),((Value.int .i64) 5,.clo (.func 65) [.ptr 3 0] []),((Value.int .i64) 6,.clo (.func 66) [] [.ptr 2 0]),((Value.int .i64) 7,.clo (.func 67) [] [.ptr 2 0])],.cells [oi x59.Kind,.d (.val (.string x59.Name)),dq qj0 x59.Zones,oi x59.N,oi x59.R.Num,oi x59.R.Den,oi x59.S.Num,oi x59.S.Den] 58,.cells [oi x59.Kind,.d (.val (.string x59.Name)),dq qj0 x59.Zones,oi x59.N,oi x59.R.Num,oi x59.R.Den,oi x59.S.Num,oi x59.S.Den] 58]) (fun y hm Kn4 hKn4=>?_) fun t h=>?_
      ·have h:=hm;clear hm;cbv;refine qf0 h ?_ ?_<;>intro h
       ·cbv;refine qf0 h ?_ ?_<;>intro h
        ·cbv;obtain rfl:=oj h;exact hKn4 _ _ _ rfl (.nz (.mtE [0,1,2,3,4,5,6] mx))
        ·cbv;obtain rfl:=oj h;exact hKn4 _ _ _ rfl (.nz (.mtE [0,1,2,3,4,5,6] mx))
       ·cbv;obtain rfl:=oj h;exact hKn4 _ _ _ rfl (.nz (.mtE [0,1,2,3,4,5,6] mx))
      obtain⟨v63,rfl⟩:=ez t;cbv;refine qf0 h ?_ ?_<;>intro h
      ·cbv;obtain rfl:=oj h;exact hKn3 _ _ _ rfl (.nz (.mtE [0,1,2,3,4] mx))
      ·cbv;obtain rfl:=oj h;exact hKn3 _ _ _ rfl (.nz (.mtE [0,1,2,3,4] mx))
     ·cbv;obtain rfl:=oj h;exact hKn3 _ _ _ rfl (.nz (.mtE [0,1,2,3,4] mx))
    ·cbv;refine qf0 h ?_ ?_<;>intro h
     ·cbv;refine .g h (fun (v64:Bool)=>rp 3 .top++[.ptr 0 0,.ptr 1 0,.top,.ptr 2 0,.hd 4,oi v39,.ptr 5 0,.clo (.func 62) [.ptr 3 0] []]++rp 24 .top++[dq qp0 p.Rules,oi (io.len (W qp0 p.Rules)),oi v39]++rp 14 .top++[ob v64]++rp 52 .top) (fun v64=>[.cells (ca f) 32,.cells dz 44,.cells [.ptr 3 0] 109,.cells [ob false,ob Together20,ob Single21,oi Limit22,oi Price23,oi Num24,oi Den25,oi Num26,oi Den27,oi Num28,oi Den29,oi Num30,oi Den31,oi Num32,oi Den33,oi 0,ob priced34,ob sold35,ob back36,oi allowed37,oi denied38] 111,.mpf (.int .i64) [((Value.int .i64) 1,.clo (.func 61) [.ptr 3 0] []),((Value.int .i64) 2,.clo (.func 62) [.ptr 3 0] []),((Value.int .i64) 3,.clo (.func 63) [.ptr 3 0] []),((Value.int .i64) 4,.clo (.func 64) [.ptr 3 0] []),((Value.int .i64) 5,.clo (.func 65) [.ptr 3 0] []),((Value.int .i64) 6,.clo (.func 66) [] [.ptr 2 0]),((Value.int .i64) 7,.clo (.func 67) [] [.ptr 2 0])],.cells [oi x59.Kind,.d (.val (.string x59.Name)),dq qj0 x59.Zones,oi x59.N,oi x59.R.Num,oi x59.R.Den,oi x59.S.Num,oi x59.S.Den] 58]) (fun y hm Kn4 hKn4=>?_) fun t h=>?_
      ·have h:=hm;clear hm;cbv;refine .g h (fun v hv=>ym0 hP _ _ v hv) aw_ rfl (fun _=>rfl) fun v65 h=>?_;cbv;obtain rfl:=oj h;exact hKn4 _ _ _ rfl (.nz (.mtE [0,1,2,3,4,5] mx))
      obtain⟨v64,rfl⟩:=ez t;cbv;refine qf0 h ?_ ?_<;>intro h
      ·cbv;refine .inl (hP▸kv2) ?_;cbv;refine qf0 h ?_ ?_<;>intro h
       ·cbv;obtain rfl:=oj h;exact hKn3 _ _ _ rfl (.nz (.mtE [0,1,2,3,4] mx))
       ·cbv;obtain rfl:=oj h;exact hKn3 _ _ _ rfl (.nz (.mtE [0,1,2,3,4] mx))
      ·cbv;obtain rfl:=oj h;exact hKn3 _ _ _ rfl (.nz (.mtE [0,1,2,3,4] mx))
     ·cbv;refine qf0 h ?_ ?_<;>intro h
      ·cbv;refine .g h (fun (v66:Bool)=>rp 3 .top++[.ptr 0 0,.ptr 1 0,.top,.ptr 2 0,.hd 4,oi v39,.ptr 5 0,.clo (.func 63) [.ptr 3 0] []]++rp 24 .top++[dq qp0 p.Rules,oi (io.len (W qp0 p.Rules)),oi v39]++rp 14 .top++[ob v66]++rp 52 .top) (fun v66=>[.cells (ca f) 32,.cells dz 44,.cells [.ptr 3 0] 109,.cells [ob false,ob Together20,ob Single21,oi Limit22,oi Price23,oi Num24,oi Den25,oi Num26,oi Den27,oi Num28,oi Den29,oi Num30,oi Den31,oi Num32,oi Den33,oi 0,ob priced34,ob sold35,ob back36,oi allowed37,oi denied38] 111,.mpf (.int .i64) [((Value.int .i64) 1,.clo (.func 61) [.ptr 3 0] []),((Value.int .i64) 2,.clo (.func 62) [.ptr 3 0] []),((Value.int .i64) 3,.clo (.func 63) [.ptr 3 0] []),((Value.int .i64) 4,.clo (.func 64) [.ptr 3 0] []),((Value.int .i64) 5,.clo (.func 65) [.ptr 3 0] []),((Value.int .i64) 6,.clo (.func 66) [] [.ptr 2 0]),((Value.int .i64) 7,.clo (.func 67) [] [.ptr 2 0])],.cells [oi x59.Kind,.d (.val (.string x59.Name)),dq qj0 x59.Zones,oi x59.N,oi x59.R.Num,oi x59.R.Den,oi x59.S.Num,oi x59.S.Den] 58]) (fun y hm Kn4 hKn4=>?_) fun t h=>?_
       ·have h:=hm;clear hm;cbv;refine .g h (fun v hv=>ym0 hP _ _ v hv) aw_ rfl (fun _=>rfl) fun v67 h=>?_;cbv;obtain rfl:=oj h;exact hKn4 _ _ _ rfl (.nz (.mtE [0,1,2,3,4,5] mx))
       obtain⟨v66,rfl⟩:=ez t;cbv;refine qf0 h ?_ ?_<;>intro h
       ·cbv;refine .inl (hP▸kk2) ?_;cbv;refine qf0 h ?_ ?_<;>intro h
        ·cbv;refine .g [3] ?_;cbv;obtain rfl:=oj h;exact hKn3 _ _ _ rfl (.nz (.mtE [0,1,2,3,4] mx))
        ·cbv;obtain rfl:=oj h;exact hKn3 _ _ _ rfl (.nz (.mtE [0,1,2,3,4] mx))
       ·cbv;obtain rfl:=oj h;exact hKn3 _ _ _ rfl (.nz (.mtE [0,1,2,3,4] mx))
      ·cbv;refine qf0 h ?_ ?_<;>intro h
       ·cbv;refine .g h (fun (v68:Bool)=>rp 3 .top++[.ptr 0 0,.ptr 1 0,.top,.ptr 2 0,.hd 4,oi v39,.ptr 5 0,.clo (.func 64) [.ptr 3 0] []]++rp 24 .top++[dq qp0 p.Rules,oi (io.len (W qp0 p.Rules)),oi v39]++rp 14 .top++[ob v68]++rp 52 .top) (fun v68=>[.cells (ca f) 32,.cells dz 44,.cells [.ptr 3 0] 109,.cells [ob false,ob Together20,ob Single21,oi Limit22,oi Price23,oi Num24,oi Den25,oi Num26,oi Den27,oi Num28,oi Den29,oi Num30,oi Den31,oi Num32,oi Den33,oi 0,ob priced34,ob sold35,ob back36,oi allowed37,oi denied38] 111,.mpf (.int .i64) [((Value.int .i64) 1,.clo (.func 61) [.ptr 3 0] []),((Value.int .i64) 2,.clo (.func 62) [.ptr 3 0] []),((Value.int .i64) 3,.clo (.func 63) [.ptr 3 0] []),((Value.int .i64) 4,.clo (.func 64) [.ptr 3 0] []),((Value.int .i64) 5,.clo (.func 65) [.ptr 3 0] []),((Value.int .i64) 6,.clo (.func 66) [] [.ptr 2 0]),((Value.int .i64) 7,.clo (.func 67) [] [.ptr 2 0])],.cells [oi x59.Kind,.d (.val (.string x59.Name)),dq qj0 x59.Zones,oi x59.N,oi x59.R.Num,oi x59.R.Den,oi x59.S.Num,oi x59.S.Den] 58]) (fun y hm Kn4 hKn4=>?_) fun t h=>?_
        ·have h:=hm;clear hm;cbv;refine .g h (fun v hv=>ym0 hP _ _ v hv) aw_ rfl (fun _=>rfl) fun v69 h=>?_;cbv;obtain rfl:=oj h;exact hKn4 _ _ _ rfl (.nz (.mtE [0,1,2,3,4,5] mx))
        obtain⟨v68,rfl⟩:=ez t;cbv;refine qf0 h ?_ ?_<;>intro h
        ·cbv;refine .inl (hP▸kx2) ?_;cbv;refine qf0 h ?_ ?_<;>intro h
         ·cbv;refine .g [3] ?_;cbv;obtain rfl:=oj h;exact hKn3 _ _ _ rfl (.nz (.mtE [0,1,2,3,4] mx))
         ·cbv;obtain rfl:=oj h;exact hKn3 _ _ _ rfl (.nz (.mtE [0,1,2,3,4] mx))
        ·cbv;obtain rfl:=oj h;exact hKn3 _ _ _ rfl (.nz (.mtE [0,1,2,3,4] mx))
       ·cbv;refine qf0 h ?_ ?_<;>intro h
        ·cbv;refine .g h (fun (v70:Bool)=>rp 3 .top++[.ptr 0 0,.ptr 1 0,.top,.ptr 2 0,.hd 4,oi v39,.ptr 5 0,.clo (.func 65) [.ptr 3 0] []]++rp 24 .top++[dq qp0 p.Rules,oi (io.len (W qp0 p.Rules)),oi v39]++rp 14 .top++[ob v70]++rp 52 .top) (fun v70=>[.cells (ca f) 32,.cells dz 44,.cells [.ptr 3 0] 109,.cells [ob false,ob Together20,ob Single21,oi Limit22,oi Price23,oi Num24,oi Den25,oi Num26,oi Den27,oi Num28,oi Den29,oi Num30,oi Den31,oi Num32,oi Den33,oi 0,ob priced34,ob sold35,ob back36,oi allowed37,oi denied38] 111,.mpf (.int .i64) [((Value.int .i64) 1,.clo (.func 61) [.ptr 3 0] []),((Value.int .i64) 2,.clo (.func 62) [.ptr 3 0] []),((Value.int .i64) 3,.clo (.func 63) [.ptr 3 0] []),((Value.int .i64) 4,.clo (.func 64) [.ptr 3 0] []),((Value.int .i64) 5,.clo (.func 65) [.ptr 3 0] []),((Value.int .i64) 6,.clo (.func 66) [] [.ptr 2 0]),((Value.int .i64) 7,.clo (.func 67) [] [.ptr 2 0])],.cells [oi x59.Kind,.d (.val (.string x59.Name)),dq qj0 x59.Zones,oi x59.N,oi x59.R.Num,oi x59.R.Den,oi x59.S.Num,oi x59.S.Den] 58]) (fun y hm Kn4 hKn4=>?_) fun t h=>?_
         ·have h:=hm;clear hm;cbv;refine .g h (fun v hv=>ym0 hP _ _ v hv) aw_ rfl (fun _=>rfl) fun v71 h=>?_;cbv;obtain rfl:=oj h;exact hKn4 _ _ _ rfl (.nz (.mtE [0,1,2,3,4,5] mx))
         obtain⟨v70,rfl⟩:=ez t;cbv;refine qf0 h ?_ ?_<;>intro h
         ·cbv;refine .inl (hP▸kj2) ?_;cbv;refine qf0 h ?_ ?_<;>intro h
          ·cbv;refine .g [3] ?_;cbv;obtain rfl:=oj h;exact hKn3 _ _ _ rfl (.nz (.mtE [0,1,2,3,4] mx))
          ·cbv;obtain rfl:=oj h;exact hKn3 _ _ _ rfl (.nz (.mtE [0,1,2,3,4] mx))
         ·cbv;obtain rfl:=oj h;exact hKn3 _ _ _ rfl (.nz (.mtE [0,1,2,3,4] mx))
        ·cbv;refine qf0 h ?_ ?_<;>intro h
         ·cbv;refine .g h (fun (v72:Bool)=>rp 3 .top++[.ptr 0 0,.ptr 1 0,.top,.ptr 2 0,.hd 4,oi v39,.ptr 5 0,.clo (.func 66) [] [.ptr 2 0]]++rp 24 .top++[dq qp0 p.Rules,oi (io.len (W qp0 p.Rules)),oi v39]++rp 14 .top++[ob v72]++rp 52 .top) (fun v72=>[.cells (ca f) 32,.cells dz 44,.cells [.ptr 3 0] 109,.cells [ob false,ob Together20,ob Single21,oi Limit22,oi Price23,oi Num24,oi Den25,oi Num26,oi Den27,oi Num28,oi Den29,oi Num30,oi Den31,oi Num32,oi Den33,oi 0,ob priced34,ob sold35,ob back36,oi allowed37,oi denied38] 111,.mpf (.int .i64) [((Value.int .i64) 1,.clo (.func 61) [.ptr 3 0] []),((Value.int .i64) 2,.clo (.func 62) [.ptr 3 0] []),((Value.int .i64) 3,.clo (.func 63) [.ptr 3 0] []),((Value.int .i64) 4,.clo (.func 64) [.ptr 3 0] []),((Value.int .i64) 5,.clo (.func 65) [.ptr 3 0] []),((Value.int .i64) 6,.clo (.func 66) [] [.ptr 2 0]),((Value.int .i64) 7,.clo (.func 67) [] [.ptr 2 0])],.cells [oi x59.Kind,.d (.val (.string x59.Name)),dq qj0 x59.Zones,oi x59.N,oi x59.R.Num,oi x59.R.Den,oi x59.S.Num,oi x59.S.Den] 58]) (fun y hm Kn4 hKn4=>?_) fun t h=>?_
          ·have h:=hm;clear hm;cbv;refine .g h (fun v hv=>ym0 hP _ _ v hv) aw_ rfl (fun _=>rfl) fun v73 h=>?_;cbv;obtain rfl:=oj h;exact hKn4 _ _ _ rfl (.nz (.mtE [0,1,2,3,4,5] mx))
          obtain⟨v72,rfl⟩:=ez t;cbv;refine qf0 h ?_ ?_<;>intro h
          ·cbv;refine .inl (hP▸kz2) ?_;cbv;obtain rfl:=oj h;exact hKn3 _ _ _ rfl (.nz (.mtE [0,1,2,3,4] mx))
          ·cbv;obtain rfl:=oj h;exact hKn3 _ _ _ rfl (.nz (.mtE [0,1,2,3,4] mx))
         ·cbv;refine qf0 h ?_ ?_<;>intro h
          ·cbv;refine .g h (fun (v74:Bool)=>rp 3 .top++[.ptr 0 0,.ptr 1 0,.top,.ptr 2 0,.hd 4,oi v39,.ptr 5 0,.clo (.func 67) [] [.ptr 2 0]]++rp 24 .top++[dq qp0 p.Rules,oi (io.len (W qp0 p.Rules)),oi v39]++rp 14 .top++[ob v74]++rp 52 .top) (fun v74=>[.cells (ca f) 32,.cells dz 44,.cells [.ptr 3 0] 109,.cells [ob false,ob Together20,ob Single21,oi Limit22,oi Price23,oi Num24,oi Den25,oi Num26,oi Den27,oi Num28,oi Den29,oi Num30,oi Den31,oi Num32,oi Den33,oi 0,ob priced34,ob sold35,ob back36,oi allowed37,oi denied38] 111,.mpf (.int .i64) [((Value.int .i64) 1,.clo (.func 61) [.ptr 3 0] []),((Value.int .i64) 2,.clo (.func 62) [.ptr 3 0] []),((Value.int .i64) 3,.clo (.func 63) [.ptr 3 0] []),((Value.int .i64) 4,.clo (.func 64) [.ptr 3 0] []),((Value.int .i64) 5,.clo (.func 65) [.ptr 3 0] []),((Value.int .i64) 6,.clo (.func 66) [] [.ptr 2 0]),((Value.int .i64) 7,.clo (.func 67) [] [.ptr 2 0])],.cells [oi x59.Kind,.d (.val (.string x59.Name)),dq qj0 x59.Zones,oi x59.N,oi x59.R.Num,oi x59.R.Den,oi x59.S.Num,oi x59.S.Den] 58]) (fun y hm Kn4 hKn4=>?_) fun t h=>?_
           ·have h:=hm;clear hm;cbv;refine .g h (fun v hv=>ym0 hP _ _ v hv) aw_ rfl (fun _=>rfl) fun v75 h=>?_;cbv;obtain rfl:=oj h;exact hKn4 _ _ _ rfl (.nz (.mtE [0,1,2,3,4,5] mx))
           obtain⟨v74,rfl⟩:=ez t;cbv;refine qf0 h ?_ ?_<;>intro h
           ·cbv;refine .inl (hP▸kq2) ?_;cbv;obtain rfl:=oj h;exact hKn3 _ _ _ rfl (.nz (.mtE [0,1,2,3,4] mx))
           ·cbv;obtain rfl:=oj h;exact hKn3 _ _ _ rfl (.nz (.mtE [0,1,2,3,4] mx))
          ·cbv;refine .g h (fun (_:Unit)=>rp 3 .top++[.ptr 0 0,.ptr 1 0,.top,.ptr 2 0,.hd 4,oi v39,.ptr 5 0,.d (.val .nilFunc)]++rp 24 .top++[dq qp0 p.Rules,oi (io.len (W qp0 p.Rules)),oi v39]++rp 14 .top++[ob false]++rp 52 .top) (fun _=>[.cells (ca f) 32,.cells dz 44,.cells [.ptr 3 0] 109,.cells [ob false,ob Together20,ob Single21,oi Limit22,oi Price23,oi Num24,oi Den25,oi Num26,oi Den27,oi Num28,oi Den29,oi Num30,oi Den31,oi Num32,oi Den33,oi 0,ob priced34,ob sold35,ob back36,oi allowed37,oi denied38] 111,.mpf (.int .i64) [((Value.int .i64) 1,.clo (.func 61) [.ptr 3 0] []),((Value.int .i64) 2,.clo (.func 62) [.ptr 3 0] []),((Value.int .i64) 3,.clo (.func 63) [.ptr 3 0] []),((Value.int .i64) 4,.clo (.func 64) [.ptr 3 0] []),((Value.int .i64) 5,.clo (.func 65) [.ptr 3 0] []),((Value.int .i64) 6,.clo (.func 66) [] [.ptr 2 0]),((Value.int .i64) 7,.clo (.func 67) [] [.ptr 2 0])],.cells [oi x59.Kind,.d (.val (.string x59.Name)),dq qj0 x59.Zones,oi x59.N,oi x59.R.Num,oi x59.R.Den,oi x59.S.Num,oi x59.S.Den] 58]) (fun y hm Kn4 hKn4=>?_) fun t h=>?_
           ·have h:=hm;clear hm;cbv;obtain rfl:=oj h;exact hKn4 _ _ _ rfl (.nz (.mtE [0,1,2,3,4,5] mx))
           cbv;obtain rfl:=oj h;exact hKn3 _ _ _ rfl (.nz (.mtE [0,1,2,3,4] mx))
   obtain⟨Together40,Single41,Limit42,Price43,Num44,Den45,Num46,Den47,Num48,Den49,Num50,Den51,Num52,Den53,priced54,sold55,back56,allowed57,denied58⟩:=t;cbv;obtain rfl:=oj h;exact hKn2 _ _ _ rfl (.nz (.mtE [0,1,2,3,4] mx))
  ·cbv;obtain rfl:=oj h;obtain rfl:=hr2 _ rfl;exact hKn1 _ _ _ rfl (.nz (.mtE [1,2,3] mx))
 obtain⟨Together1,Single2,Limit3,Price4,Num5,Den6,Num7,Den8,Num9,Den10,Num11,Den12,Num13,Den14,priced15,sold16,back17,allowed18,denied19⟩:=t;cbv;refine .g h (fun (Allowed76:Bool)=>rp 4 .top++[.ptr 0 0,.top,.ptr 1 0]++rp 98 .top) (fun Allowed76=>[.cells dz 44,.cells [.ptr 2 0] 109,.cells [ob Allowed76,ob Together1,ob Single2,oi Limit3,oi Price4,oi Num5,oi Den6,oi Num7,oi Den8,oi Num9,oi Den10,oi Num11,oi Den12,oi Num13,oi Den14,oi 0,ob priced15,ob sold16,ob back17,oi allowed18,oi denied19] 111]) (fun y hm Kn1 hKn1=>?_) fun t h=>?_
 ·have h:=hm;clear hm;cbv;refine qf0 h ?_ ?_<;>intro h
  ·cbv;refine qf0 h ?_ ?_<;>intro h
   ·cbv;obtain rfl:=oj h;exact hKn1 _ _ _ rfl (.nz (.mtE [0,1,2] mx))
   ·cbv;obtain rfl:=oj h;exact hKn1 _ _ _ rfl (.nz (.mtE [0,1,2] mx))
  ·cbv;obtain rfl:=oj h;exact hKn1 _ _ _ rfl (.nz (.mtE [0,1,2] mx))
 obtain⟨Allowed76,rfl⟩:=ez t;cbv;refine .g h (fun (By77:Int)=>rp 4 .top++[.ptr 0 0,.top,.ptr 1 0]++rp 98 .top) (fun By77=>[.cells dz 44,.cells [.ptr 2 0] 109,.cells [ob Allowed76,ob Together1,ob Single2,oi Limit3,oi Price4,oi Num5,oi Den6,oi Num7,oi Den8,oi Num9,oi Den10,oi Num11,oi Den12,oi Num13,oi Den14,oi By77,ob priced15,ob sold16,ob back17,oi allowed18,oi denied19] 111]) (fun y hm Kn1 hKn1=>?_) fun t h=>?_
 ·have h:=hm;clear hm;cbv;refine qf0 h ?_ ?_<;>intro h
  ·cbv;obtain rfl:=oj h;exact hKn1 _ _ _ rfl (.nz (.mtE [0,1,2] mx))
  ·cbv;obtain rfl:=oj h;exact hKn1 _ _ _ rfl (.nz (.mtE [0,1,2] mx))
 obtain⟨By77,rfl⟩:=ez t;cbv;obtain rfl:=oj h;exact hK _ _ aw_
end Go.SX.Td
