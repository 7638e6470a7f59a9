/- Parts of the proof. -/
import Derived.Test.YtllbabjgpdmblaaGreatDoorZTdT
import Derived.Test.YtllbabjgpdmblaaGreatDoorZSyT
import Derived.Test.YtllbabjgpdmblaaGreatDoorZTd26d
import Derived.Test.YtllbabjgpdmblaaGreatDoorZTd17d
import Derived.Test.YtllbabjgpdmblaaGreatDoorZTdSbuild
import Derived.Test.YtllbabjgpdmblaaGreatDoorZTd49
set_option linter.unusedSimpArgs false
set_option linter.unusedVariables false
set_option linter.unusedSectionVars false
namespace Go.SX.Td
open Go Go.SX Go.Proofs
set_option maxRecDepth 100000
def vg3 : List GOp:=gS 4 [.alloc 28 (.agg #[(.slice none 0 0),(.slice none 0 0)])]
def vb3 : List GOp:=gS 14 [.mkm (.int .i64) false]++gS 5 [.alloc 129 (.map none)]++[⟨none,.store 1 5 14,none⟩]
def vy3 : List GOp:=gS 6 [.alloc 48 (.slice none 0 0)]
def vw3 : List GOp:=gS 15 [.mv 0,.nilck 15,.fadd 0 16,.load 1 false 17,.mv 1,.mkfn (.func 75) [] [6,5],.call 40 [18,19,20]]
def vv3 : List GOp:=gS 7 [.alloc 28 (.agg #[(.slice none 0 0),(.slice none 0 0)])]
def vk3 : List GOp:=gS 22 [.load 1 false 6,.len false 22,.mv (ci 0)]
def vx3 : List GOp:=gS 25 [.bin .lss 24 23]
def vj3 : List GOp:=gS 26 [.idxA 1 22 24,.load 1 false 26]++gS 9 [.mv 27]
def vz3 : List GOp:=gS 28 [.mv 0,.nilck 28,.fadd 0 29,.load 1 false 30,.mv 9,.idxA 4 31 32,.load 4 true 33]++gS 10 [.alloc 50 (.agg #[oz,(.slice none 0 0),(.slice none 0 0),oz])]++[⟨none,.store 4 10 34,none⟩]
def vq3 : List GOp:=gS 35 [.fadd 2 10,.load 1 false 35,.len false 36,.bin .eql 37 (ci 0)]
def ur2 : List GOp:=gS 39 [.fadd 1 7,.load 1 false 39,.mv 0,.nilck 41,.fadd 1 42,.load 1 false 43,.fadd 3 10,.load 1 false 45,.idxA 16 44 46,.load 16 true 47,.bslice 44 16 1 (.agg #[(.bool false),(.bool false),(.bool false),oz,oz,oz,oz,oz,oz,oz,oz,oz,oz,oz,oz,oz]) [(0,48)],.app 44 16 112 (.agg #[(.bool false),(.bool false),(.bool false),oz,oz,oz,oz,oz,oz,oz,oz,oz,oz,oz,oz,oz]) 40 49,.fadd 1 7]
def oo1 : GOp:=⟨none,.store 1 51 50,none⟩
def un2 : List GOp:=gS 52 [.fadd 1 7,.load 1 false 52,.len false 53,.bin .sub 54 (ci 1),.fadd 3 10]++[⟨none,.store 1 56 55,none⟩]
def us2 : List GOp:=gS 57 [.fadd 2 10,.load 1 false 57]++gS 11 [.mv 58]
def ut2 : List GOp:=gS 59 [.fadd 2 10]++[⟨none,.store 1 59 cn,none⟩]
def ul2 : List GOp:=gS 60 [.mv 11,.len false 60,.mv (ci 0)]
def ud2 : List GOp:=gS 63 [.bin .lss 62 61]
def uc2 : List GOp:=gS 64 [.idxA 1 60 62,.load 1 false 64]++gS 13 [.mv 65]
def um2 : List GOp:=gS 66 [.fadd 2 10,.load 1 false 66,.load 1 false 5,.mv 13,.fo0 (.int .i64) false false oz 68 69,.bslice 3 1 1 oz [(0,70)],.app 3 1 8 oz 67 71,.fadd 2 10]++[⟨none,.store 1 73 72,none⟩]
def uf2 : List GOp:=gS 74 [.bin .add 62 (ci 1)]++gS 62 [.mv 74]
def ue2 : DE:=.seq (.reg ud2) (.seq (.cond 63 (.skip) (.exit 2)) (.seq (.block 3 (.seq (.reg uc2) (.reg um2))) (.reg uf2)))
def uh2 : List GOp:=gS 75 [.fadd 0 7,.load 1 false 75,.load 4 true 10,.bslice 50 4 1 (.agg #[oz,(.slice none 0 0),(.slice none 0 0),oz]) [(0,77)],.app 50 4 64 (.agg #[oz,(.slice none 0 0),(.slice none 0 0),oz]) 76 78,.fadd 0 7]++[⟨none,.store 1 80 79,none⟩]
def up2 : List GOp:=gS 81 [.bin .add 24 (ci 1)]++gS 24 [.mv 81]
def ua2 : DE:=.seq (.reg vx3) (.seq (.cond 25 (.skip) (.exit 0)) (.join (.block 1 (.seq (.reg vj3) (.seq (.reg vz3) (.join (.seq (.reg vq3) (.cond 38 (.seq (.hyl true true 11 ur2 oo1) (.reg un2)) (.skip))) (.seq (.reg us2) (.seq (.reg ut2) (.join (.seq (.reg ul2) (.block 2 (.loop ue2))) (.reg uh2)))))))) (.reg up2)))
def ug2 : List GOp:=gS 82 [.load 2 true 7]++[⟨none,.store 2 4 82,none⟩]
def c36 : EFn:=⟨83,.seq (.reg vg3) (.seq (.reg vb3) (.seq (.reg vy3) (.join (.reg vw3) (.seq (.reg vv3) (.join (.seq (.reg vk3) (.block 0 (.loop ua2))) (.seq (.reg ug2) (.ret))))))),[.cell 4 2 true]⟩
theorem ui2 : zv0 Tryz.prog 36=some c36.er:=by kernel_rfl
def dm3 : List GOp:=gS 1 [.box 24 0,.alloc 28 (.agg #[(.slice none 0 0),(.slice none 0 0)]),.mv (ci 0)]
def df3 : List GOp:=gS 13 [.load 1 true 1,.call 22 [13],.un .not 14]
def dh3 : List GOp:=gS 16 [.build (.agg #[(.slice none 0 0),(.slice none 0 0)]) []]++[⟨none,.store 2 2 16,none⟩]++gS 3 [.mv (ci 1)]
def dp3 : List GOp:=gS 17 [.mkm .str false,.mkm .str false,.mkm (.agg [.bool,.bool,.bool,.int,.int,.int,.int,.int,.int,.int,.int,.int,.int,.int,.int,.int]) false,.build (.agg #[(.slice none 0 0),(.slice none 0 0),(.map none),(.map none),(.map none)]) [((2,1),17),((3,1),18),((4,1),19)],.box 78 20]++gS 4 [.alloc 74 (.pointer none)]++[⟨none,.store 1 4 21,none⟩]
def dg3 : List GOp:=gS 22 [.call 23 []]++gS 5 [.alloc 54 (.agg #[oz,oz,oz,oz,oz,oz,oz,oz,oz,oz,oz,oz,oz,oz,oz,oz,oz,oz,oz,oz])]++[⟨none,.store 20 5 22,none⟩]
def db3 : List GOp:=gS 6 [.alloc 56 (.slice none 0 0)]
def dy3 : List GOp:=gS 23 [.fadd 0 1,.load 1 false 23,.len false 24,.mv (ci 0)]
def dw3 : List GOp:=gS 27 [.bin .lss 26 25]
def dv3 : List GOp:=gS 28 [.idxA 8 24 26,.load 8 true 28]++gS 8 [.alloc 58 (.agg #[oz,(.string ⟨#[]⟩),(.slice none 0 0),oz,oz,oz,oz,oz])]++[⟨none,.store 8 8 29,none⟩]
def dx3 : List GOp:=gS 30 [.load 1 false 6,.fadd 2 8,.load 1 false 31,.app 54 20 160 (.agg #[oz,oz,oz,oz,oz,oz,oz,oz,oz,oz,oz,oz,oz,oz,oz,oz,oz,oz,oz,oz]) 30 32]++[⟨none,.store 1 6 33,none⟩]
def nk2 : List GOp:=gS 34 [.bin .add 26 (ci 1)]++gS 26 [.mv 34]
def nw2 : DE:=.seq (.reg dw3) (.seq (.cond 27 (.skip) (.exit 0)) (.seq (.block 1 (.seq (.reg dv3) (.reg dx3))) (.reg nk2)))
def nx2 : List GOp:=gS 9 [.alloc 79 .nilFunc]
def nj2 : List GOp:=gS 35 [.mkfn (.func 30) [] [1,4,5,6,9]]++[⟨none,.store 1 9 35,none⟩]
def nz2 : List GOp:=gS 36 [.load 1 false 6,.len false 36,.mks 3 1 8 oz 37 37]++gS 10 [.mv 38]
def nq2 : List GOp:=gS 39 [.mv 10,.len false 39,.mv (ci 0)]
def mu2 : List GOp:=gS 42 [.bin .lss 41 40]
def mo2 : List GOp:=gS 43 [.mv 41]++gS 11 [.mv 43]
def mi2 : List GOp:=gS 44 [.mv 10,.mv 11,.mv 11,.idxA 1 44 45]++[⟨none,.store 1 47 46,none⟩]
def me2 : List GOp:=gS 48 [.bin .add 41 (ci 1)]++gS 41 [.mv 48]
def nv2 : DE:=.seq (.reg mu2) (.seq (.cond 42 (.skip) (.exit 2)) (.seq (.block 3 (.seq (.reg mo2) (.reg mi2))) (.reg me2)))
def ma2 : List GOp:=gS 49 [.load 1 false 9,.mv 10,.build (.agg #[oz,oz,oz,oz,oz,oz,oz,oz,oz,oz]) [],.callv 49 [(ci 0),50,51]]++gS 12 [.mv 52]
def mr2 : List GOp:=gS 53 [.load 1 false 4,.nilck 53,.fadd 0 54,.load 1 false 55,.len false 56,.bin .gtr 57 (ci 20000)]
def mn2 : List GOp:=gS 59 [.build (.agg #[(.slice none 0 0),(.slice none 0 0)]) []]++[⟨none,.store 2 2 59,none⟩]++gS 3 [.mv (ci 3)]
def mt2 : List GOp:=gS 60 [.load 1 false 4,.mv 12,.call 36 [60,61]]++[⟨none,.store 2 2 62,none⟩]++gS 3 [.mv (ci 0)]
def c12 : EFn:=⟨63,.seq (.reg dm3) (.seq (.seq (.reg df3) (.cond 15 (.seq (.reg dh3) (.ret)) (.skip))) (.seq (.reg dp3) (.seq (.reg dg3) (.seq (.reg db3) (.join (.seq (.reg dy3) (.block 0 (.loop nw2))) (.seq (.reg nx2) (.seq (.reg nj2) (.seq (.reg nz2) (.join (.seq (.reg nq2) (.block 2 (.loop nv2))) (.join (.reg ma2) (.seq (.seq (.reg mr2) (.cond 58 (.seq (.reg mn2) (.ret)) (.skip))) (.seq (.reg mt2) (.ret))))))))))))),[.cell 2 2 true,.tmp 3]⟩
theorem ny2 : zv0 Tryz.prog 12=some c12.er:=by kernel_rfl
set_option maxHeartbeats 4000000 in
theorem ke0 {P:Program}(hP:P=Tryz.prog)(p:Policy)(r:Table×Int)(h:zi0 p=some r):Fn1 P 12 [ud0 p] (.tup [uc0 r.1,tt0 r.2]):=by
 refine .cy1 (hP▸ny2) fun K hK=>?_;unfold zi0 at h;cbv;refine .g h (fun v hv=>cq0 hP _ v hv) aw_ rfl (fun _=>rfl) fun v1 h=>?_;cbv;refine qf0 h ?_ ?_<;>intro h
 ·cbv;obtain rfl:=oj h;exact hK _ _ aw_
 ·cbv;refine .g h (fun v hv=>js0 hP v hv) aw_ rfl (fun _=>rfl) fun v2 h=>?_;cbv;refine .g h (fun (zones3:(List (A10 Range)))=>[.top,.ptr 0 0,.ptr 1 0,.top,.ptr 2 0,.ptr 7 0,.ptr 8 0]++rp 56 .top) (fun zones3=>[.cells [dq qp0 p.Rules] 24,.cells [.d (.val (.slice none 0 0)),.d (.val (.slice none 0 0))] 28,.cells [.ptr 3 0] 74,.cells [.d (.val (.slice none 0 0)),.d (.val (.slice none 0 0)),.hd 4,.hd 5,.hd 6] 78,.mp .str false (WM Value.string qq0 []),.mp .str false (WM Value.string qq0 []),.mp (.agg [.bool,.bool,.bool,.int,.int,.int,.int,.int,.int,.int,.int,.int,.int,.int,.int,.int]) false (WM qy0 qq0 []),.cells (cR v2) 54,.cells [.hd 9] 56,rE zones3]) (fun y hm Kn1 hKn1=>?_) fun t h=>?_
  ·have h:=hm;clear hm;cbv;refine .g h (fun ((zones4,v5):(List (A10 Range))×Int)=>[.top,.ptr 0 0,.ptr 1 0,.top,.ptr 2 0,.ptr 7 0,.ptr 8 0]++rp 17 .top++[dq qp0 p.Rules,oi (io.len (W qp0 p.Rules)),oi v5]++rp 36 .top) (fun (zones4,v5)=>[.cells [dq qp0 p.Rules] 24,.cells [.d (.val (.slice none 0 0)),.d (.val (.slice none 0 0))] 28,.cells [.ptr 3 0] 74,.cells [.d (.val (.slice none 0 0)),.d (.val (.slice none 0 0)),.hd 4,.hd 5,.hd 6] 78,.mp .str false (WM Value.string qq0 []),.mp .str false (WM Value.string qq0 []),.mp (.agg [.bool,.bool,.bool,.int,.int,.int,.int,.int,.int,.int,.int,.int,.int,.int,.int,.int]) false (WM qy0 qq0 []),.cells (cR v2) 54,.cells [.hd 9] 56,rE zones4]) (.yp0 8 0 54 20 _ 56 rfl rfl (.nz (.mtE [0,1,6,5,2,3,4,7,8,9] ?_))) fun s x h hr2 Kn2 hKn2=>?_
   ·exact mx
   unfold kq0 at h;obtain⟨zones4,v5⟩:=s;cbv;refine qf0 h ?_ ?_<;>intro h
   ·cbv;refine .g h (fun _=>rfl) fun x6 h=>?_;cbv;refine .g h rfl (fun _=>rfl) (by decide) fun l7 h=>?_;cbv;obtain rfl:=oj h;exact hKn2 _ _ _ rfl (.nz (.mtE [0,1,2,3,4,5,6,7,8,11] mx))
   ·cbv;obtain rfl:=oj h;obtain rfl:=hr2 _ rfl;exact hKn1 _ _ _ rfl (.nz (.mtE [0,1,2,3,4,5,6,7,8,9] mx))
  obtain⟨zones3,rfl⟩:=ez t;cbv;refine .g (e:=qq0) h aw_ (by decide) fun l8 h=>?_;cbv;refine .g h (fun (all9:(List Int))=>[.top,.top,.ptr 0 0,.top,.ptr 1 0]++rp 4 .top++[.ptr 6 0,.hd 11]++rp 52 .top) (fun all9=>[.cells [.d (.val (.slice none 0 0)),.d (.val (.slice none 0 0))] 28,.cells [.ptr 2 0] 74,.cells [.d (.val (.slice none 0 0)),.d (.val (.slice none 0 0)),.hd 3,.hd 4,.hd 5] 78,.mp .str false (WM Value.string qq0 []),.mp .str false (WM Value.string qq0 []),.mp (.agg [.bool,.bool,.bool,.int,.int,.int,.int,.int,.int,.int,.int,.int,.int,.int,.int,.int]) false (WM qy0 qq0 []),.cells [.clo (.func 30) [] [.ptr 7 0,.ptr 1 0,.ptr 8 0,.ptr 9 0,.ptr 6 0]] 79,.cells [dq qp0 p.Rules] 24,.cells (cR v2) 54,.cells [.hd 10] 56,rE zones3,rA all9]) (fun y hm Kn1 hKn1=>?_) fun t h=>?_
  ·have h:=hm;clear hm;cbv;refine .g h (fun ((all10,v11):(List Int)×Int)=>[.top,.top,.ptr 0 0,.top,.ptr 1 0]++rp 4 .top++[.ptr 6 0,.hd 11]++rp 29 .top++[oi (io.len (W qq0 l8)),oi v11]++rp 21 .top) (fun (all10,v11)=>[.cells [.d (.val (.slice none 0 0)),.d (.val (.slice none 0 0))] 28,.cells [.ptr 2 0] 74,.cells [.d (.val (.slice none 0 0)),.d (.val (.slice none 0 0)),.hd 3,.hd 4,.hd 5] 78,.mp .str false (WM Value.string qq0 []),.mp .str false (WM Value.string qq0 []),.mp (.agg [.bool,.bool,.bool,.int,.int,.int,.int,.int,.int,.int,.int,.int,.int,.int,.int,.int]) false (WM qy0 qq0 []),.cells [.clo (.func 30) [] [.ptr 7 0,.ptr 1 0,.ptr 8 0,.ptr 9 0,.ptr 6 0]] 79,.cells [dq qp0 p.Rules] 24,.cells (cR v2) 54,.cells [.hd 10] 56,rE zones3,rA all10]) (.nz (.mtE [1,2,3,4,5,6,10,0,7,8,9,11] ?_)) fun s x h hr2 Kn2 hKn2=>?_
   ·exact mx
   unfold ju0 at h;obtain⟨all10,v11⟩:=s;cbv;refine qf0 h ?_ ?_<;>intro h
   ·cbv;refine .g h fun i12 h=>?_;cbv;refine .g h (fun _=>by first | rfl | exact xr0 _ | (cbv;simp only[ka0])) fun l14 h=>?_;cbv;obtain rfl:=oj h;exact hKn2 _ _ _ rfl (.nz (.mtE [0,1,2,3,4,5,6,7,8,9,10,11] mx))
   ·cbv;obtain rfl:=oj h;obtain rfl:=hr2 _ rfl;exact hKn1 _ _ _ rfl (.nz (.mtE [0,1,2,3,4,5,6,7,8,9,10,11] mx))
  obtain⟨all9,rfl⟩:=ez t;cbv;refine .g h (fun ((nodes15,leaves16,known17,made18,leaf19,root20):(List Node)×(List Decision)×(List (ByteArray×Int))×(List (ByteArray×Int))×(List (Decision×Int))×Int)=>[.top,.top,.ptr 0 0,.top,.ptr 1 0]++rp 7 .top++[oi root20]++rp 50 .top) (fun (nodes15,leaves16,known17,made18,leaf19,root20)=>[.cells [.d (.val (.slice none 0 0)),.d (.val (.slice none 0 0))] 28,.cells [.ptr 2 0] 74,.cells [.hd 3,dq qz0 leaves16,.hd 4,.hd 5,.hd 6] 78,rB nodes15,.mp .str false (WM Value.string qq0 known17),.mp .str false (WM Value.string qq0 made18),.mp (.agg [.bool,.bool,.bool,.int,.int,.int,.int,.int,.int,.int,.int,.int,.int,.int,.int,.int]) false (WM qy0 qq0 leaf19)]) (fun y hm Kn1 hKn1=>?_) fun t h=>?_
  ·have h:=hm;clear hm;cbv;refine .yp0 2 0 50 4 _ 78 rfl rfl ?_;refine .yp0 2 1 44 16 _ 78 rfl rfl ?_;refine .frzh [.hd 10] ?_;obtain⟨r21,hm,h⟩:=Option.bind_eq_some_iff.1 h;refine .dr1 [7,1,2,12,13,3,4,5,8,9,6] (cd0 hP p.Rules v2 zones3 11 _ _ _ _ _ _ _ _ _ hm) mx fun sv0 own0 hq _=>?_;obtain⟨rfl,rfl⟩:=hq;clear hm;cbv;obtain rfl:=oj h;exact hKn1 _ _ _ rfl (.frz [.hd 15] (.nz (.mtE [0,1,2,14,3,4,5] mx)))
  obtain⟨nodes15,leaves16,known17,made18,leaf19,root20⟩:=t;cbv;refine qf0 h ?_ ?_<;>intro h
  ·cbv;obtain rfl:=oj h;exact hK _ _ aw_
  ·cbv;refine .inl (hP▸ui2) ?_;cbv;refine .g h (fun ((number22,order23):(List (Int×Int))×(List Int))=>[.ptr 2 0]++rp 3 .top++[.ptr 7 0,.ptr 8 0,.ptr 10 0]++rp 76 .top) (fun (number22,order23)=>[.cells [.d (.val (.slice none 0 0)),.d (.val (.slice none 0 0))] 28,.cells [.ptr 2 0] 74,.cells [.hd 3,dq qz0 leaves16,.hd 4,.hd 5,.hd 6] 78,rB nodes15,.mp .str false (WM Value.string qq0 known17),.mp .str false (WM Value.string qq0 made18),.mp (.agg [.bool,.bool,.bool,.int,.int,.int,.int,.int,.int,.int,.int,.int,.int,.int,.int,.int]) false (WM qy0 qq0 leaf19),.cells [.d (.val (.slice none 0 0)),.d (.val (.slice none 0 0))] 28,.cells [.hd 9] 129,.mp (.int .i64) false (WM (Value.int .i64) qq0 number22),.cells [.hd 11] 48,rA order23]) (fun y hm Kn1 hKn1=>?_) fun t h=>?_
   ·have h:=hm;clear hm;cbv;refine .inl (hP▸en1) ?_;cbv;refine .yp0 10 0 3 1 _ 48 rfl rfl ?_;obtain⟨r24,hm,h⟩:=Option.bind_eq_some_iff.1 h;refine .dr1 [14,13,12,10,16,9,8,11,3,15] (qz1 hP nodes15 11 _ _ _ _ _ hm) mx fun sv0 own0 hq _=>?_;obtain⟨rfl,rfl⟩:=hq;clear hm;cbv;obtain rfl:=oj h;exact hKn1 _ _ _ rfl (.nz (.mtE [0,1,2,3,4,5,6,7,9,8,10,17] mx))
   obtain⟨number22,order23⟩:=t;cbv;refine .g h (fun ((Nodes25,Leaves26):(List Node)×(List Decision))=>rp 4 .top++[.ptr 7 0,.top,.top,.ptr 8 0]++rp 75 .top) (fun (Nodes25,Leaves26)=>[.cells [.d (.val (.slice none 0 0)),.d (.val (.slice none 0 0))] 28,.cells [.ptr 2 0] 74,.cells [.hd 3,dq qz0 leaves16,.hd 4,.hd 5,.hd 6] 78,rB nodes15,.mp .str false (WM Value.string qq0 known17),.mp .str false (WM Value.string qq0 made18),.mp (.agg [.bool,.bool,.bool,.int,.int,.int,.int,.int,.int,.int,.int,.int,.int,.int,.int,.int]) false (WM qy0 qq0 leaf19),.cells [.d (.val (.slice none 0 0)),.d (.val (.slice none 0 0))] 28,.cells [.hd 9,.hd 10] 28,rB Nodes25,rC Leaves26]) (fun y hm Kn1 hKn1=>?_) fun t h=>?_
   ·have h:=hm;clear hm;cbv;refine .g h (fun ((Nodes27,Leaves28,v29):(List Node)×(List Decision)×Int)=>[.ptr 2 0]++rp 3 .top++[.ptr 7 0,.ptr 8 0,.top,.ptr 10 0]++rp 14 .top++[.hd 13,oi (io.len (W qq0 order23)),oi v29]++rp 58 .top) (fun (Nodes27,Leaves28,v29)=>[.cells [.d (.val (.slice none 0 0)),.d (.val (.slice none 0 0))] 28,.cells [.ptr 2 0] 74,.cells [.hd 3,dq qz0 leaves16,.hd 4,.hd 5,.hd 6] 78,rB nodes15,.mp .str false (WM Value.string qq0 known17),.mp .str false (WM Value.string qq0 made18),.mp (.agg [.bool,.bool,.bool,.int,.int,.int,.int,.int,.int,.int,.int,.int,.int,.int,.int,.int]) false (WM qy0 qq0 leaf19),.cells [.d (.val (.slice none 0 0)),.d (.val (.slice none 0 0))] 28,.cells [.hd 9] 129,.mp (.int .i64) false (WM (Value.int .i64) qq0 number22),.cells [.hd 11,.hd 12] 28,rB Nodes27,rC Leaves28,rA order23]) (.yp0 12 0 50 4 _ 28 rfl rfl (.yp0 12 1 44 16 _ 28 rfl rfl (.nz (.mtE [0,1,2,3,4,5,6,7,8,9,12,13,14,11] ?_)))) fun s x h hr2 Kn2 hKn2=>?_
    ·exact mx
    unfold yt0 at h;obtain⟨Nodes27,Leaves28,v29⟩:=s;cbv;refine qf0 h ?_ ?_<;>intro h
    ·cbv;refine .g h (fun ((Nodes30,Leaves31):(List Node)×(List Decision))=>[.ptr 2 0]++rp 3 .top++[.ptr 7 0,.ptr 8 0,.top,.ptr 10 0]++rp 14 .top++[.hd 13,oi (io.len (W qq0 order23)),oi v29]++rp 58 .top) (fun (Nodes30,Leaves31)=>[.cells [.d (.val (.slice none 0 0)),.d (.val (.slice none 0 0))] 28,.cells [.ptr 2 0] 74,.cells [.hd 3,dq qz0 leaves16,.hd 4,.hd 5,.hd 6] 78,rB nodes15,.mp .str false (WM Value.string qq0 known17),.mp .str false (WM Value.string qq0 made18),.mp (.agg [.bool,.bool,.bool,.int,.int,.int,.int,.int,.int,.int,.int,.int,.int,.int,.int,.int]) false (WM qy0 qq0 leaf19),.cells [.d (.val (.slice none 0 0)),.d (.val (.slice none 0 0))] 28,.cells [.hd 9] 129,.mp (.int .i64) false (WM (Value.int .i64) qq0 number22),.cells [.hd 11,.hd 12] 28,rB Nodes30,rC Leaves31,rA order23]) (fun y hm Kn3 hKn3=>?_) fun t h=>?_
     ·have h:=hm;clear hm;cbv;refine .g h fun ix32 h=>?_;cbv;refine .g h fun v33 h=>?_;cbv;refine .g h fun i34 h=>?_;cbv;refine .g h fun v35 h=>?_;cbv;refine .g h (fun ((Leaves36,Leaf37):(List Decision)×Int)=>[.ptr 2 0]++rp 3 .top++[.ptr 7 0,.ptr 8 0,.top,.ptr 10 0,.top,.top,.ptr 13 0]++rp 11 .top++[.hd 14,oi (io.len (W qq0 order23)),oi v29]++rp 58 .top) (fun (Leaves36,Leaf37)=>[.cells [.d (.val (.slice none 0 0)),.d (.val (.slice none 0 0))] 28,.cells [.ptr 2 0] 74,.cells [.hd 3,dq qz0 leaves16,.hd 4,.hd 5,.hd 6] 78,rB nodes15,.mp .str false (WM Value.string qq0 known17),.mp .str false (WM Value.string qq0 made18),.mp (.agg [.bool,.bool,.bool,.int,.int,.int,.int,.int,.int,.int,.int,.int,.int,.int,.int,.int]) false (WM qy0 qq0 leaf19),.cells [.d (.val (.slice none 0 0)),.d (.val (.slice none 0 0))] 28,.cells [.hd 9] 129,.mp (.int .i64) false (WM (Value.int .i64) qq0 number22),.cells [.hd 11,.hd 12] 28,rB Nodes27,rC Leaves36,.cells [oi v35.Attr,dq qq0 v35.Cuts,dq qq0 v35.Kids,oi Leaf37] 50,rA order23]) (fun y hm Kn4 hKn4=>?_) fun t h=>?_
      ·have h:=hm;clear hm;cbv;refine qf0 h ?_ ?_<;>intro h
       ·cbv;refine .g h (fun _=>rfl) fun x38 h=>?_;cbv;refine .g (e:=qz0) h (qd0 aw_ (zw0 _)) fun l39 h=>?_;cbv;refine .g h rfl (fun _=>rfl) (by decide) fun l40 h=>?_;cbv;obtain rfl:=oj h;exact hKn4 _ _ _ rfl (.nz (.mtE [0,1,2,3,4,5,6,7,8,9,10,11,15,14,13] mx))
       ·cbv;obtain rfl:=oj h;exact hKn4 _ _ _ rfl (.nz (.mtE [0,1,2,3,4,5,6,7,8,9,10,11,12,14,13] mx))
      obtain⟨Leaves36,Leaf37⟩:=t;cbv;refine .g h (fun (Kids41:(List Int))=>[.ptr 2 0]++rp 3 .top++[.ptr 7 0,.ptr 8 0,.top,.ptr 10 0,.top,.top,.ptr 13 0]++rp 11 .top++[.hd 15,oi (io.len (W qq0 order23)),oi v29]++rp 58 .top) (fun Kids41=>[.cells [.d (.val (.slice none 0 0)),.d (.val (.slice none 0 0))] 28,.cells [.ptr 2 0] 74,.cells [.hd 3,dq qz0 leaves16,.hd 4,.hd 5,.hd 6] 78,rB nodes15,.mp .str false (WM Value.string qq0 known17),.mp .str false (WM Value.string qq0 made18),.mp (.agg [.bool,.bool,.bool,.int,.int,.int,.int,.int,.int,.int,.int,.int,.int,.int,.int,.int]) false (WM qy0 qq0 leaf19),.cells [.d (.val (.slice none 0 0)),.d (.val (.slice none 0 0))] 28,.cells [.hd 9] 129,.mp (.int .i64) false (WM (Value.int .i64) qq0 number22),.cells [.hd 11,.hd 12] 28,rB Nodes27,rC Leaves36,.cells [oi v35.Attr,dq qq0 v35.Cuts,.hd 14,oi Leaf37] 50,rA Kids41,rA order23]) (fun y hm Kn4 hKn4=>?_) fun t h=>?_
      ·have h:=hm;clear hm;cbv;refine .g h (fun ((Kids42,v43):(List Int)×Int)=>[.ptr 2 0]++rp 3 .top++[.ptr 7 0,.ptr 8 0,.top,.ptr 10 0,.top,.top,.ptr 13 0]++rp 11 .top++[.hd 15,oi (io.len (W qq0 order23)),oi v29]++rp 35 .top++[dq qq0 v35.Kids,oi (io.len (W qq0 v35.Kids)),oi v43]++rp 20 .top) (fun (Kids42,v43)=>[.cells [.d (.val (.slice none 0 0)),.d (.val (.slice none 0 0))] 28,.cells [.ptr 2 0] 74,.cells [.hd 3,dq qz0 leaves16,.hd 4,.hd 5,.hd 6] 78,rB nodes15,.mp .str false (WM Value.string qq0 known17),.mp .str false (WM Value.string qq0 made18),.mp (.agg [.bool,.bool,.bool,.int,.int,.int,.int,.int,.int,.int,.int,.int,.int,.int,.int,.int]) false (WM qy0 qq0 leaf19),.cells [.d (.val (.slice none 0 0)),.d (.val (.slice none 0 0))] 28,.cells [.hd 9] 129,.mp (.int .i64) false (WM (Value.int .i64) qq0 number22),.cells [.hd 11,.hd 12] 28,rB Nodes27,rC Leaves36,.cells [oi v35.Attr,dq qq0 v35.Cuts,.hd 14,oi Leaf37] 50,rA Kids42,rA order23]) (.yp0 13 2 3 1 _ 50 rfl rfl (.nz (.mtE [0,1,2,3,4,5,6,7,8,9,10,11,12,13,15,14] ?_))) fun s x h hr5 Kn5 hKn5=>?_
       ·exact mx
       unfold yl0 at h;obtain⟨Kids42,v43⟩:=s;cbv;refine qf0 h ?_ ?_<;>intro h
       ·cbv;refine .g h (fun _=>rfl) fun x44 h=>?_;cbv;refine .gi (e:=qq0) h (by first | rfl | exact yz0 _ _) (fun h=>h) fun y45 h=>?_;cbv;refine .g (e:=qq0) h (qd0 aw_ (zw0 _)) fun l46 h=>?_;cbv;refine .g h rfl (fun _=>rfl) (by decide) fun l47 h=>?_;cbv;obtain rfl:=oj h;exact hKn5 _ _ _ rfl (.nz (.mtE [0,1,2,3,4,5,6,7,8,9,10,11,12,13,17,15] mx))
       ·cbv;obtain rfl:=oj h;obtain rfl:=hr5 _ rfl;exact hKn4 _ _ _ rfl (.nz (.mtE [0,1,2,3,4,5,6,7,8,9,10,11,12,13,14,15] mx))
      obtain⟨Kids41,rfl⟩:=ez t;cbv;refine .g (e:=qk0) h (qd0 aw_ (zw0 _)) fun l48 h=>?_;cbv;refine .g h rfl (fun _=>rfl) (by decide) fun l49 h=>?_;cbv;obtain rfl:=oj h;exact hKn3 _ _ _ rfl (.nz (.mtE [0,1,2,3,4,5,6,7,8,9,10,17,12,15] mx))
     obtain⟨Nodes30,Leaves31⟩:=t;cbv;obtain rfl:=oj h;exact hKn2 _ _ _ rfl (.nz (.mtE [0,1,2,3,4,5,6,7,8,9,10,11,12,13] mx))
    ·cbv;obtain rfl:=oj h;obtain rfl:=hr2 _ rfl;exact hKn1 _ _ _ rfl (.nz (.mtE [0,1,2,3,4,5,6,7,10,11,12] mx))
   obtain⟨Nodes25,Leaves26⟩:=t;cbv;obtain rfl:=oj h;exact hK _ _ aw_
end Go.SX.Td
namespace Go.SX.Td
open Go Go.SX Go.Proofs
set_option maxRecDepth 100000
def c9r0 : List GOp:=gS 0 [.mv (cB false)]
def c9r1 : List GOp:=gS 17 [.call 23 []]++gS 1 [.alloc 54 (.agg #[oz,oz,oz,oz,oz,oz,oz,oz,oz,oz,oz,oz,oz,oz,oz,oz,oz,oz,oz,oz])]++[⟨none,.store 20 1 17,none⟩]
def c9r2 : List GOp:=gS 18 [.build (.agg #[oz,oz]) [((0,1),(ci 1)),((1,1),(ci 1))],.call 28 [(ci 2),18],.call 27 [(ci 1),(.const (.string ⟨#[97]⟩)),(ci 0),19]]++gS 2 [.alloc 58 (.agg #[oz,(.string ⟨#[]⟩),(.slice none 0 0),oz,oz,oz,oz,oz])]++[⟨none,.store 8 2 20,none⟩]
def c9r3 : List GOp:=gS 21 [.load 20 true 1,.call 27 [(ci 3),(.const (.string ⟨#[112]⟩)),(ci 100),21]]++gS 3 [.alloc 58 (.agg #[oz,(.string ⟨#[]⟩),(.slice none 0 0),oz,oz,oz,oz,oz])]++[⟨none,.store 8 3 22,none⟩]
def c9r4 : List GOp:=gS 23 [.build (.agg #[oz,oz]) [((1,1),(ci 17))],.call 28 [(ci 1),23],.call 27 [(ci 2),(.const (.string ⟨#[100]⟩)),(ci 0),24]]++gS 4 [.alloc 58 (.agg #[oz,(.string ⟨#[]⟩),(.slice none 0 0),oz,oz,oz,oz,oz])]++[⟨none,.store 8 4 25,none⟩]
def c9r5 : List GOp:=gS 27 [.build (.agg #[(.slice none 0 0)]) [],.call 12 [27]]++gS 26 [.mv 28]++gS 29 [.ext 26 0,.ext 26 1]++gS 5 [.alloc 28 (.agg #[(.slice none 0 0),(.slice none 0 0)])]++[⟨none,.store 2 5 29,none⟩]++gS 6 [.mv 30]
def c9r6 : List GOp:=gS 32 [.load 20 true 1,.call 27 [(ci 1),(.const (.string ⟨#[97]⟩)),(ci 0),32],.load 8 true 3,.bslice 58 8 2 (.agg #[oz,(.string ⟨#[]⟩),(.slice none 0 0),oz,oz,oz,oz,oz]) [(0,33),(1,34)],.build (.agg #[(.slice none 0 0)]) [((0,1),35)],.call 12 [36]]++gS 31 [.mv 37]++gS 38 [.ext 31 0,.ext 31 1]++gS 7 [.alloc 28 (.agg #[(.slice none 0 0),(.slice none 0 0)])]++[⟨none,.store 2 7 38,none⟩]++gS 8 [.mv 39]
def c9r7 : List GOp:=gS 41 [.load 8 true 2,.load 8 true 3,.bslice 58 8 2 (.agg #[oz,(.string ⟨#[]⟩),(.slice none 0 0),oz,oz,oz,oz,oz]) [(0,41),(1,42)],.build (.agg #[(.slice none 0 0)]) [((0,1),43)],.call 12 [44]]++gS 40 [.mv 45]++gS 46 [.ext 40 0,.ext 40 1]++gS 9 [.alloc 28 (.agg #[(.slice none 0 0),(.slice none 0 0)])]++[⟨none,.store 2 9 46,none⟩]++gS 10 [.mv 47]
def c9r8 : List GOp:=gS 49 [.load 8 true 2,.load 8 true 3,.load 8 true 4,.bslice 58 8 3 (.agg #[oz,(.string ⟨#[]⟩),(.slice none 0 0),oz,oz,oz,oz,oz]) [(0,49),(1,50),(2,51)],.build (.agg #[(.slice none 0 0)]) [((0,1),52)],.call 12 [53]]++gS 48 [.mv 54]++gS 55 [.ext 48 0,.ext 48 1]++gS 11 [.alloc 28 (.agg #[(.slice none 0 0),(.slice none 0 0)])]++[⟨none,.store 2 11 55,none⟩]++gS 12 [.mv 56]
def c9r9 : List GOp:=gS 58 [.build (.agg #[oz,(.string ⟨#[]⟩),(.slice none 0 0),oz,oz,oz,oz,oz]) [],.bslice 58 8 1 (.agg #[oz,(.string ⟨#[]⟩),(.slice none 0 0),oz,oz,oz,oz,oz]) [(0,58)],.build (.agg #[(.slice none 0 0)]) [((0,1),59)],.call 12 [60]]++gS 57 [.mv 61]++gS 62 [.ext 57 0,.ext 57 1]++gS 13 [.alloc 28 (.agg #[(.slice none 0 0),(.slice none 0 0)])]++[⟨none,.store 2 13 62,none⟩]++gS 14 [.mv 63]
def cv2 : List GOp:=gS 64 [.mv 6,.bin .neq 64 (ci 0),.mv 65]++gQ 66 false 67 [.mv 8,.bin .neq 67 (ci 0)]++gS 69 [.pick 66 (cB true) 68,.mv 69]++gQ 70 false 71 [.mv 10,.bin .neq 71 (ci 0)]++gS 73 [.pick 70 (cB true) 72,.mv 73]++gQ 74 false 75 [.mv 12,.bin .neq 75 (ci 0)]++gS 77 [.pick 74 (cB true) 76,.mv 77]++gQ 78 false 79 [.mv 14,.bin .neq 79 (ci 1)]++gS 81 [.pick 78 (cB true) 80,.mv 81]++gQ 82 false 83 [.fadd 0 5,.load 1 false 83,.len false 84,.bin .neq 85 (ci 1)]++gS 87 [.pick 82 (cB true) 86,.mv 87]++gQ 88 false 89 [.fadd 0 7,.load 1 false 89,.len false 90,.bin .neq 91 (ci 1)]++gS 93 [.pick 88 (cB true) 92,.mv 93]++gQ 94 false 95 [.fadd 0 9,.load 1 false 95,.len false 96,.bin .neq 97 (ci 3)]++gS 99 [.pick 94 (cB true) 98,.mv 99]++gQ 100 false 101 [.fadd 0 11,.load 1 false 101,.len false 102,.bin .neq 103 (ci 5)]++gS 105 [.pick 100 (cB true) 104]
def cx2 : List GOp:=gS 0 [.mv (cB false)]
def cz2 : List GOp:=gS 106 [.fadd 1 5,.load 1 false 106,.idxA 16 107 (ci 0),.fadd 0 108,.load 1 false 109,.un .not 110,.mv 111]++gQ 112 true 113 [.fadd 1 7,.load 1 false 113,.idxA 16 114 (ci 0),.fadd 0 115,.load 1 false 116]++gS 118 [.pick 112 117 (cB false),.mv 118]++gQ 119 true 120 [.fadd 1 7,.load 1 false 120,.idxA 16 121 (ci 0),.fadd 4 122,.load 1 false 123,.bin .eql 124 (ci 100)]++gS 126 [.pick 119 125 (cB false),.mv 126]++gQ 127 true 128 [.fadd 0 9,.load 1 false 128,.idxA 4 129 (ci 0),.load 4 true 130,.bslice 3 1 1 oz [(0,(ci 1))],.bslice 3 1 2 oz [(0,(ci 1)),(1,(ci 2))],.build (.agg #[oz,(.slice none 0 0),(.slice none 0 0),oz]) [((0,1),(ci 2)),((1,1),132),((2,1),133)],.call 29 [131,134]]++gS 136 [.pick 127 135 (cB false),.mv 136]++gQ 137 true 138 [.fadd 0 11,.load 1 false 138,.idxA 4 139 (ci 0),.load 4 true 140,.bslice 3 1 1 oz [(0,(ci 18))],.bslice 3 1 2 oz [(0,(ci 1)),(1,(ci 2))],.build (.agg #[oz,(.slice none 0 0),(.slice none 0 0),oz]) [((0,1),(ci 1)),((1,1),142),((2,1),143)],.call 29 [141,144]]++gS 146 [.pick 137 145 (cB false)]++gS 15 [.mv 146]
def cq2 : List GOp:=gS 147 [.build (.agg #[oz,oz,oz,oz,oz,oz,oz,oz,oz,oz]) [((1,1),(ci 30)),((2,1),(ci 1)),((8,1),(ci 1))]]++gS 16 [.alloc 32 (.agg #[oz,oz,oz,oz,oz,oz,oz,oz,oz,oz])]++[⟨none,.store 10 16 147,none⟩]
def tu2 : List GOp:=gS 148 [.mv 15,.mv 148]++gQ 149 true 150 [.load 2 true 11,.load 10 true 16,.call 17 [150,151],.fld 0 1 false 152]++gS 154 [.pick 149 153 (cB false),.mv 154]++gQ 155 true 156 [.load 2 true 9,.build (.agg #[oz,oz,oz,oz,oz,oz,oz,oz,oz,oz]) [],.call 17 [156,157],.fld 0 1 false 158,.un .not 159]++gS 161 [.pick 155 160 (cB false),.mv 161]++gQ 162 true 163 [.load 2 true 11,.call 15 [163]]++gS 165 [.pick 162 164 (cB false),.mv 165]++gQ 166 true 167 [.build (.agg #[(.slice none 0 0),(.slice none 0 0)]) [],.call 15 [167],.un .not 168]++gS 170 [.pick 166 169 (cB false)]++gS 0 [.mv 170]
def c9 : EFn:=⟨171,.seq (.reg c9r0) (.seq (.reg c9r1) (.seq (.reg c9r2) (.seq (.reg c9r3) (.seq (.reg c9r4) (.seq (.reg c9r5) (.seq (.par false false false 11 c9r6) (.seq (.reg c9r7) (.seq (.reg c9r8) (.seq (.reg c9r9) (.seq (.join (.reg cv2) (.cond 105 (.seq (.reg cx2) (.ret)) (.skip))) (.join (.reg cz2) (.seq (.reg cq2) (.seq (.reg tu2) (.ret)))))))))))))),[.tmp 0]⟩
theorem cw2 : zv0 Tryz.prog 9=some c9.er:=by kernel_rfl
set_option maxHeartbeats 4000000 in
theorem zr1 {P:Program}(hP:P=Tryz.prog)(r:Bool)(h:uj0=some r):Fn1 P 9 [] (vB r):=by
 refine .vz0 (hP▸cw2) fun K hK=>?_;unfold uj0 at h;cbv;refine .g h (fun v hv=>js0 hP v hv) aw_ rfl (fun _=>rfl) fun v1 h=>?_;cbv;refine .g h (fun v hv=>rg0 hP _ _ v hv) aw_ rfl (fun _=>rfl) fun v2 h=>?_;cbv;refine .g h (fun v hv=>gf0 hP _ _ _ _ v hv) aw_ rfl (fun _=>rfl) fun v3 h=>?_;cbv;refine .g h (fun v hv=>gf0 hP _ _ _ _ v hv) aw_ rfl (fun _=>rfl) fun v4 h=>?_;cbv;refine .g h (fun v hv=>rg0 hP _ _ v hv) aw_ rfl (fun _=>rfl) fun v5 h=>?_;cbv;refine .g h (fun v hv=>gf0 hP _ _ _ _ v hv) aw_ rfl (fun _=>rfl) fun v6 h=>?_;cbv;refine .g h (fun v hv=>ke0 hP _ v hv) aw_ rfl (fun _=>rfl) fun v7 h=>?_;cbv;refine .g h (fun v hv=>gf0 hP _ _ _ _ v hv) aw_ rfl (fun _=>rfl) fun v8 h=>?_;cbv;refine .g (e:=qp0) h (qd0 aw_ (qd0 aw_ (zw0 _))) fun l9 h=>?_;cbv;refine .g h (fun v hv=>ke0 hP _ v hv) aw_ rfl (fun _=>rfl) fun v10 h=>?_;cbv;refine .g (e:=qp0) h (qd0 aw_ (qd0 aw_ (zw0 _))) fun l11 h=>?_;cbv;refine .g h (fun v hv=>ke0 hP _ v hv) aw_ rfl (fun _=>rfl) fun v12 h=>?_;cbv;refine .g (e:=qp0) h (qd0 aw_ (qd0 aw_ (qd0 aw_ (zw0 _)))) fun l13 h=>?_;cbv;refine .g h (fun v hv=>ke0 hP _ v hv) aw_ rfl (fun _=>rfl) fun v14 h=>?_;cbv;refine .g (e:=qp0) h (qd0 aw_ (zw0 _)) fun l15 h=>?_;cbv;refine .g h (fun v hv=>ke0 hP _ v hv) aw_ rfl (fun _=>rfl) fun v16 h=>?_;cbv;refine .g h (fun (v17:Bool)=>rp 5 .top++[.ptr 0 0,.top,.ptr 1 0,.top,.ptr 2 0,.top,.ptr 3 0]++rp 93 .top++[ob v17]++rp 65 .top) (fun v17=>[.cells [dq qk0 v7.1.Nodes,dq qz0 v7.1.Leaves] 28,.cells [dq qk0 v10.1.Nodes,dq qz0 v10.1.Leaves] 28,.cells [dq qk0 v12.1.Nodes,dq qz0 v12.1.Leaves] 28,.cells [dq qk0 v14.1.Nodes,dq qz0 v14.1.Leaves] 28]) (fun y hm Kn1 hKn1=>?_) fun t h=>?_
 ·have h:=hm;clear hm;cbv;refine qf0 h ?_ ?_<;>intro h
  ·cbv;obtain rfl:=oj h;exact hKn1 _ _ _ rfl (.nz (.mtE [4,5,7,9] mx))
  ·cbv;refine qf0 h ?_ ?_<;>intro h
   ·cbv;obtain rfl:=oj h;exact hKn1 _ _ _ rfl (.nz (.mtE [4,5,7,9] mx))
   ·cbv;refine qf0 h ?_ ?_<;>intro h
    ·cbv;obtain rfl:=oj h;exact hKn1 _ _ _ rfl (.nz (.mtE [4,5,7,9] mx))
    ·cbv;refine qf0 h ?_ ?_<;>intro h
     ·cbv;obtain rfl:=oj h;exact hKn1 _ _ _ rfl (.nz (.mtE [4,5,7,9] mx))
     ·cbv;refine qf0 h ?_ ?_<;>intro h
      ·cbv;obtain rfl:=oj h;exact hKn1 _ _ _ rfl (.nz (.mtE [4,5,7,9] mx))
      ·cbv;refine qf0 h ?_ ?_<;>intro h
       ·cbv;obtain rfl:=oj h;exact hKn1 _ _ _ rfl (.nz (.mtE [4,5,7,9] mx))
       ·cbv;refine qf0 h ?_ ?_<;>intro h
        ·cbv;obtain rfl:=oj h;exact hKn1 _ _ _ rfl (.nz (.mtE [4,5,7,9] mx))
        ·cbv;refine qf0 h ?_ ?_<;>intro h
         ·cbv;obtain rfl:=oj h;exact hKn1 _ _ _ rfl (.nz (.mtE [4,5,7,9] mx))
         ·cbv;obtain rfl:=oj h;exact hKn1 _ _ _ rfl (.nz (.mtE [4,5,7,9] mx))
 obtain⟨v17,rfl⟩:=ez t;cbv;refine qf0 h ?_ ?_<;>intro h
 ·cbv;obtain rfl:=oj h;exact hK _ _ aw_
 ·cbv;refine .g h (fun (one18:Bool)=>rp 9 .top++[.ptr 0 0,.top,.ptr 1 0]++rp 3 .top++[ob one18]++rp 155 .top) (fun one18=>[.cells [dq qk0 v12.1.Nodes,dq qz0 v12.1.Leaves] 28,.cells [dq qk0 v14.1.Nodes,dq qz0 v14.1.Leaves] 28]) (fun y hm Kn1 hKn1=>?_) fun t h=>?_
  ·have h:=hm;clear hm;cbv;refine .g h (fun _=>rfl) fun x19 h=>?_;cbv;refine qf0 h ?_ ?_<;>intro h
   ·cbv;refine .g h (fun _=>rfl) fun x20 h=>?_;cbv;refine qf0 h ?_ ?_<;>intro h
    ·cbv;refine .g h (fun _=>rfl) fun x21 h=>?_;cbv;refine qf0 h ?_ ?_<;>intro h
     ·cbv;refine .g h (fun _=>rfl) fun x22 h=>?_;cbv;refine .g (e:=qq0) h (qd0 aw_ (zw0 _)) fun l23 h=>?_;cbv;refine .g (e:=qq0) h (qd0 aw_ (qd0 aw_ (zw0 _))) fun l24 h=>?_;cbv;refine .gl [] h (fun v hv=>vi0 hP _ _ v hv) aw_ rfl fun v25 h=>?_;cbv;refine qf0 h ?_ ?_<;>intro h
      ·cbv;refine .g h (fun _=>rfl) fun x26 h=>?_;cbv;refine .g (e:=qq0) h (qd0 aw_ (zw0 _)) fun l27 h=>?_;cbv;refine .g (e:=qq0) h (qd0 aw_ (qd0 aw_ (zw0 _))) fun l28 h=>?_;cbv;refine .gl [] h (fun v hv=>vi0 hP _ _ v hv) aw_ rfl fun v29 h=>?_;cbv;obtain rfl:=oj h;exact hKn1 _ _ _ rfl (.nz (.mtE [2,3] mx))
      ·cbv;obtain rfl:=oj h;exact hKn1 _ _ _ rfl (.nz (.mtE [2,3] mx))
     ·cbv;obtain rfl:=oj h;exact hKn1 _ _ _ rfl (.nz (.mtE [2,3] mx))
    ·cbv;obtain rfl:=oj h;exact hKn1 _ _ _ rfl (.nz (.mtE [2,3] mx))
   ·cbv;obtain rfl:=oj h;exact hKn1 _ _ _ rfl (.nz (.mtE [2,3] mx))
  obtain⟨one18,rfl⟩:=ez t;cbv;refine qf0 h ?_ ?_<;>intro h
  ·cbv;refine .g h (fun v hv=>gl0 hP _ _ v hv) aw_ rfl (fun _=>rfl) fun v30 h=>?_;cbv;refine qf0 h ?_ ?_<;>intro h
   ·cbv;refine .g h (fun v hv=>gl0 hP _ _ v hv) aw_ rfl (fun _=>rfl) fun v31 h=>?_;cbv;refine qf0 h ?_ ?_<;>intro h
    ·cbv;refine .g h (fun v hv=>uy0 hP _ v hv) aw_ rfl (fun _=>rfl) fun v32 h=>?_;cbv;refine qf0 h ?_ ?_<;>intro h
     ·cbv;refine .g h (fun v hv=>uy0 hP _ v hv) aw_ rfl (fun _=>rfl) fun v33 h=>?_;cbv;obtain rfl:=oj h;exact hK _ _ aw_
     ·cbv;obtain rfl:=oj h;exact hK _ _ aw_
    ·cbv;obtain rfl:=oj h;exact hK _ _ aw_
   ·cbv;obtain rfl:=oj h;exact hK _ _ aw_
  ·cbv;obtain rfl:=oj h;exact hK _ _ aw_
end Go.SX.Td
