/- Parts of the proof. -/
import Derived.Test.YtlpempbeenpilaaGreatDoorZRgT
import Derived.Test.YtlpempbeenpilaaGreatDoorZRg46d
set_option linter.unusedSimpArgs false
set_option linter.unusedVariables false
set_option linter.unusedSectionVars false
namespace Go.SX.Rg
open Go Go.SX Go.Proofs
set_option maxRecDepth 100000
noncomputable def ref32_Registry_Issue_b (show0:Int)(places0:Int)(titles0:(List Title))(gone0:(List Int))(place:Int)(first:ByteArray):Option (Int×Int×(List Title)×(List Int)) :=
 Option.bind (
 bif (io.lt place 0) then (
 some true
 ) else (
 bif (io.le places0 place) then (
 some true
 ) else (
 Option.bind (ref02_Is_g first) fun v2 =>
 some (io.not v2)
 )
 )
 ) fun v1 =>
 bif v1 then (
 some (0,1,titles0,gone0)
 ) else (
 bif (io.le 4000 (io.len (W eTitle titles0))) then (
 some (0,3,titles0,gone0)
 ) else (
 Option.bind (
 Option.bind (ref32_Registry_At_b show0 places0 titles0 gone0 place) fun r4 =>
 some (io.not (io.eq r4 0))
 ) fun v3 =>
 bif v3 then (
 some (0,16,titles0,gone0)
 ) else (
 Option.bind (some ([]:List Title)) fun l5 =>
 Option.bind (appG l5 titles0) fun l6 =>
 Option.bind (some [(Title.mk (io.ar .add .i64 (io.ar .add .i64 (io.ar .mul .i64 (io.ar .add .i64 show0 1) 10000) (io.len (W eTitle titles0))) 1) show0 place first [])]) fun l7 =>
 Option.bind (appG l6 l7) fun l8 =>
 Option.bind (some ([]:List Int)) fun l9 =>
 Option.bind (appG l9 gone0) fun l10 =>
 Option.bind (some [0]) fun l11 =>
 Option.bind (appG l10 l11) fun l12 =>
 some ((io.ar .add .i64 (io.ar .add .i64 (io.ar .mul .i64 (io.ar .add .i64 show0 1) 10000) (io.len (W eTitle titles0))) 1),0,l8,l12)
 )
 )
 )
noncomputable def ref32_Registry_Issue_nil_g (place:Int)(first:ByteArray):Option (Int×Int) :=
 Option.bind (
 some ()
 ) fun _ =>
 some (0,1)
end Go.SX.Rg
namespace Go.SX.Rg
open Go Go.SX Go.Proofs
set_option maxRecDepth 100000
def c26r0 : List GOp:=gS 4 [.mv (ci 0)]
def c26r1 : List GOp:=gS 6 [.mv 0,.pnil false 6,.mv 7]++gQ 8 false 9 [.mv 1,.bin .lss 9 (ci 0)]++gS 11 [.pick 8 (cB true) 10]
def c26r2 : List GOp:=gS 4 [.mv (ci 0)]
def c26r3 : List GOp:=gS 5 [.mv (ci 0)]
def c26r4 : List GOp:=gS 12 [.mv 5,.mv 0,.nilck 13,.fadd 2 14,.load 1 false 15,.len false 16,.bin .lss 12 17]
def c26r5 : List GOp:=gS 21 [.mv 0,.nilck 21,.fadd 3 22,.load 1 false 23,.mv 5,.idxA 1 24 25,.load 1 false 26,.bin .eql 27 (ci 0),.mv 28]++gQ 29 true 30 [.mv 0,.nilck 30,.fadd 2 31,.load 1 false 32,.mv 5,.idxA 5 33 34,.fadd 2 35,.load 1 false 36,.mv 1,.bin .eql 37 38]++gS 40 [.pick 29 39 (cB false)]
def c26r6 : List GOp:=gS 41 [.mv 0,.nilck 41,.fadd 2 42,.load 1 false 43,.mv 5,.idxA 5 44 45,.fadd 0 46,.load 1 false 47]++gS 4 [.mv 48]
def c26r7 : List GOp:=gS 19 [.mv 5,.bin .add 19 (ci 1)]++gS 5 [.mv 20]
def c26l8 : DE:=.seq (.seq (.reg c26r4) (.cond 18 (.skip) (.exit 0))) (.seq (.block 1 (.join (.reg c26r5) (.cond 40 (.seq (.reg c26r6) (.ret)) (.skip)))) (.reg c26r7))
def c26r9 : List GOp:=gS 4 [.mv (ci 0)]
def c26 : EFn:=⟨49,.seq (.reg c26r0) (.seq (.join (.reg c26r1) (.cond 11 (.seq (.reg c26r2) (.ret)) (.skip))) (.join (.seq (.reg c26r3) (.block 0 (.loop c26l8))) (.seq (.reg c26r9) (.ret)))),[.tmp 4]⟩
theorem c26_ok : compF Tryz.prog 26=some c26.er:=by kernel_rfl
set_option maxHeartbeats 8000000 in
theorem ref32_Registry_At_R {P:Program}(hP:P=Tryz.prog)(show0:Int)(places0:Int)(titles0:(List Title))(gone0:(List Int))(place:Int)(r:Int)(h:ref32_Registry_At_b show0 places0 titles0 gone0 place=some r):SCall P 26 [.cells [oi show0,oi places0,dq eTitle titles0,dq eIi64 gone0] 76] [.ptr 0 0,oi place] (fun sv own'=>sv=oi r∧own'=[.cells [oi show0,oi places0,dq eTitle titles0,dq eIi64 gone0] 76]):=by
 refine .walkF 1 rfl (Nat.le_of_ble_eq_true rfl) (hP▸c26_ok) fun K hK=>?_;unfold ref32_Registry_At_b at h;cbv;refine .g h (fun (_:Unit)=>[.ptr 0 0,oi place]++rp 9 .top++[ob (io.lt place 0)]++rp 37 .top) (fun _=>[.cells [oi show0,oi places0,dq eTitle titles0,dq eIi64 gone0] 76]) (fun y hm Kn1 hKn1=>?_) fun t h=>?_
 ·have h:=hm;clear hm;cbv;obtain rfl:=oj h;exact hKn1 _ _ _ rfl (.nz (.mtE [0] mx))
 cbv;refine brkG h ?_ ?_<;>intro h
 ·cbv;obtain rfl:=oj h;exact hK _ _ [] [0] mx
 ·cbv;refine .ga h (fun (_:Unit)=>rp 49 .top) (fun _=>[.cells [oi show0,oi places0,dq eTitle titles0,dq eIi64 gone0] 76]) (fun y hm hr1 Kn1 hKn1=>?_) fun t h=>?_
  ·have h:=hm;clear hm;cbv;refine .g h (fun (i1:Int)=>[.ptr 0 0,oi place]++rp 3 .top++[oi i1]++rp 43 .top) (fun i1=>[.cells [oi show0,oi places0,dq eTitle titles0,dq eIi64 gone0] 76]) (.nz (.mtE [0] ?_)) fun s x h hr2 Kn2 hKn2=>?_
   ·exact mx
   unfold ref32_Registry_At_l2 at h;obtain⟨i1,rfl⟩:=ez s;cbv;refine brkG h ?_ ?_<;>intro h
   ·cbv;refine .g h (fun (v2:Bool)=>[.ptr 0 0,oi place]++rp 3 .top++[oi i1]++rp 34 .top++[ob v2]++rp 8 .top) (fun v2=>[.cells [oi show0,oi places0,dq eTitle titles0,dq eIi64 gone0] 76]) (fun y hm Kn3 hKn3=>?_) fun t h=>?_
    ·have h:=hm;clear hm;cbv;refine .g h (fun _=>rfl) fun x3 h=>?_;cbv;refine brkG h ?_ ?_<;>intro h
     ·cbv;refine .g h (fun _=>rfl) fun x4 h=>?_;cbv;obtain rfl:=oj h;exact hKn3 _ _ _ rfl (.nz (.mtE [0] mx))
     ·cbv;obtain rfl:=oj h;exact hKn3 _ _ _ rfl (.nz (.mtE [0] mx))
    obtain⟨v2,rfl⟩:=ez t;cbv;refine brkG h ?_ ?_<;>intro h
    ·cbv;refine .g h (fun _=>rfl) fun x5 h=>?_;cbv;obtain rfl:=oj h;obtain rfl:=hr2 _ rfl;obtain rfl:=hr1 _ rfl;exact hK _ _ [] [0] mx
    ·cbv;obtain rfl:=oj h;exact hKn2 _ _ _ rfl (.nz (.mtE [0] mx))
   ·cbv;obtain rfl:=oj h;obtain rfl:=hr2 _ rfl;exact hKn1 _ _ _ rfl (.nz (.mtE [0] mx))
  cbv;obtain rfl:=oj h;exact hK _ _ [] [0] mx
set_option maxHeartbeats 4000000 in
theorem ref32_Registry_At_nil_R {P:Program}(hP:P=Tryz.prog)(place:Int)(r:Int)(h:ref32_Registry_At_nil_g place=some r):Fn1 P 26 [.d (.val (.pointer none)),vIi64 place] (vIi64 r):=by
 refine .walkE (hP▸c26_ok) fun K hK=>?_;unfold ref32_Registry_At_nil_g at h;cbv;refine .g h (fun (_:Unit)=>[.d (.val (.pointer none)),oi place]++rp 9 .top++[ob true]++rp 37 .top) (fun _=>[]) (fun y hm Kn1 hKn1=>?_) fun t h=>?_
 ·have h:=hm;clear hm;cbv;obtain rfl:=oj h;exact hKn1 _ _ _ rfl (.nz (.mtE [] mx))
 cbv;obtain rfl:=oj h;exact hK _ _ aw_
end Go.SX.Rg
namespace Go.SX.Rg
open Go Go.SX Go.Proofs
set_option maxRecDepth 100000
def c71r0 : List GOp:=gS 2 [.mv (ci 0)]
def c71r1 : List GOp:=gS 3 [.mv 0,.bin .geq 3 (.const (.int .u8 48)),.mv 4]++gQ 5 true 6 [.mv 0,.bin .leq 6 (.const (.int .u8 57))]++gS 8 [.pick 5 7 (cB false)]
def c71r2 : List GOp:=gS 9 [.mv 0,.bin .sub 9 (.const (.int .u8 48)),.cvi .i64 10]++gS 2 [.mv 11]
def c71r3 : List GOp:=gS 12 [.mv 0,.bin .geq 12 (.const (.int .u8 97)),.mv 13]++gQ 14 true 15 [.mv 0,.bin .leq 15 (.const (.int .u8 102))]++gS 17 [.pick 14 16 (cB false)]
def c71r4 : List GOp:=gS 18 [.mv 0,.bin .sub 18 (.const (.int .u8 97)),.cvi .i64 19,.bin .add 20 (ci 10)]++gS 2 [.mv 21]
def c71r5 : List GOp:=gS 2 [.mv (ci (-1))]
def c71 : EFn:=⟨22,.seq (.reg c71r0) (.seq (.join (.reg c71r1) (.cond 8 (.seq (.reg c71r2) (.ret)) (.skip))) (.seq (.join (.reg c71r3) (.cond 17 (.seq (.reg c71r4) (.ret)) (.skip))) (.seq (.reg c71r5) (.ret)))),[.tmp 2]⟩
theorem c71_ok : compF Tryz.prog 71=some c71.er:=by kernel_rfl
set_option maxHeartbeats 4000000 in
theorem ref02_Digit_R {P:Program}(hP:P=Tryz.prog)(c:Int)(r:Int)(h:ref02_Digit_g c=some r):Fn1 P 71 [vIu8 c] (vIi64 r):=by
 refine .walkE (hP▸c71_ok) fun K hK=>?_;unfold ref02_Digit_g at h;cbv;refine .g h (fun (v1:Bool)=>[.d (.val (.int .u8 c))]++rp 7 .top++[ob v1]++rp 13 .top) (fun v1=>[]) (fun y hm Kn1 hKn1=>?_) fun t h=>?_
 ·have h:=hm;clear hm;cbv;refine brkG h ?_ ?_<;>intro h
  ·cbv;obtain rfl:=oj h;exact hKn1 _ _ _ rfl (.nz (.mtE [] mx))
  ·cbv;obtain rfl:=oj h;exact hKn1 _ _ _ rfl (.nz (.mtE [] mx))
 obtain⟨v1,rfl⟩:=ez t;cbv;refine brkG h ?_ ?_<;>intro h
 ·cbv;obtain rfl:=oj h;exact hK _ _ aw_
 ·cbv;refine .g h (fun (v2:Bool)=>[.d (.val (.int .u8 c))]++rp 16 .top++[ob v2]++rp 4 .top) (fun v2=>[]) (fun y hm Kn1 hKn1=>?_) fun t h=>?_
  ·have h:=hm;clear hm;cbv;refine brkG h ?_ ?_<;>intro h
   ·cbv;obtain rfl:=oj h;exact hKn1 _ _ _ rfl (.nz (.mtE [] mx))
   ·cbv;obtain rfl:=oj h;exact hKn1 _ _ _ rfl (.nz (.mtE [] mx))
  obtain⟨v2,rfl⟩:=ez t;cbv;refine brkG h ?_ ?_<;>intro h
  ·cbv;obtain rfl:=oj h;exact hK _ _ aw_
  ·cbv;obtain rfl:=oj h;exact hK _ _ aw_
end Go.SX.Rg
namespace Go.SX.Rg
open Go Go.SX Go.Proofs
set_option maxRecDepth 100000
def c40r0 : List GOp:=gS 2 [.mv (cB false)]
def c40r1 : List GOp:=gS 3 [.mv (ci 0)]
def c40r2 : List GOp:=gS 4 [.mv 3,.mv 0,.len true 5,.bin .lss 4 6,.mv 7]++gQ 8 true 9 [.mv 3,.bin .lss 9 (ci 16)]++gS 11 [.pick 8 10 (cB false)]
def c40r3 : List GOp:=gS 14 [.mv 0,.mv 3,.idxS 14 15,.call 71 [16],.bin .lss 17 (ci 0)]
def c40r4 : List GOp:=gS 2 [.mv (cB false)]
def c40r5 : List GOp:=gS 12 [.mv 3,.bin .add 12 (ci 1)]++gS 3 [.mv 13]
def c40l6 : DE:=.seq (.join (.reg c40r2) (.cond 11 (.skip) (.exit 0))) (.seq (.block 1 (.seq (.reg c40r3) (.cond 18 (.seq (.reg c40r4) (.ret)) (.skip)))) (.reg c40r5))
def c40r7 : List GOp:=gS 19 [.mv 0,.len true 19,.bin .eql 20 (ci 16)]++gS 2 [.mv 21]
def c40 : EFn:=⟨22,.seq (.reg c40r0) (.join (.seq (.reg c40r1) (.block 0 (.loop c40l6))) (.seq (.reg c40r7) (.ret))),[.tmp 2]⟩
theorem c40_ok : compF Tryz.prog 40=some c40.er:=by kernel_rfl
set_option maxHeartbeats 4000000 in
theorem ref02_Is_R {P:Program}(hP:P=Tryz.prog)(text:ByteArray)(r:Bool)(h:ref02_Is_g text=some r):Fn1 P 40 [vS text] (vB r):=by
 refine .walkE (hP▸c40_ok) fun K hK=>?_;unfold ref02_Is_g at h;cbv;refine .ga h (fun (_:Unit)=>[.d (.val (.string text))]++rp 21 .top) (fun _=>[]) (fun y hm hr1 Kn1 hKn1=>?_) fun t h=>?_
 ·have h:=hm;clear hm;cbv;refine .g h (fun (i1:Int)=>[.d (.val (.string text)),.top,.top,oi i1]++rp 18 .top) (fun i1=>[]) (.nz (.mtE [] ?_)) fun s x h hr2 Kn2 hKn2=>?_
  ·exact mx
  unfold ref02_Is_l2 at h;obtain⟨i1,rfl⟩:=ez s;cbv;refine .g h (fun (v2:Bool)=>[.d (.val (.string text)),.top,.top,oi i1]++rp 7 .top++[ob v2]++rp 10 .top) (fun v2=>[]) (fun y hm Kn3 hKn3=>?_) fun t h=>?_
  ·have h:=hm;clear hm;cbv;refine brkG h ?_ ?_<;>intro h
   ·cbv;obtain rfl:=oj h;exact hKn3 _ _ _ rfl (.nz (.mtE [] mx))
   ·cbv;obtain rfl:=oj h;exact hKn3 _ _ _ rfl (.nz (.mtE [] mx))
  obtain⟨v2,rfl⟩:=ez t;cbv;refine brkG h ?_ ?_<;>intro h
  ·cbv;refine .g h fun b3 h=>?_;cbv;refine .g h (fun v hv=>ref02_Digit_R hP _ v hv) aw_ rfl (fun _=>rfl) fun v4 h=>?_;cbv;refine brkG h ?_ ?_<;>intro h
   ·cbv;obtain rfl:=oj h;obtain rfl:=hr2 _ rfl;obtain rfl:=hr1 _ rfl;exact hK _ _ aw_
   ·cbv;obtain rfl:=oj h;exact hKn2 _ _ _ rfl (.nz (.mtE [] mx))
  ·cbv;obtain rfl:=oj h;obtain rfl:=hr2 _ rfl;exact hKn1 _ _ _ rfl (.nz (.mtE [] mx))
 cbv;obtain rfl:=oj h;exact hK _ _ aw_
end Go.SX.Rg
namespace Go.SX.Rg
open Go Go.SX Go.Proofs
set_option maxRecDepth 100000
def c17r0 : List GOp:=gS 6 [.mv (ci 0),.mv (ci 0)]
def c17r1 : List GOp:=gS 9 [.mv 0,.pnil false 9,.mv 10]++gQ 11 false 12 [.mv 1,.bin .lss 12 (ci 0)]++gS 14 [.pick 11 (cB true) 13,.mv 14]++gQ 15 false 16 [.mv 1,.mv 0,.nilck 17,.fadd 1 18,.load 1 false 19,.bin .geq 16 20]++gS 22 [.pick 15 (cB true) 21,.mv 22]++gQ 23 false 24 [.mv 2,.call 40 [24],.un .not 25]++gS 27 [.pick 23 (cB true) 26]
def c17r2 : List GOp:=gS 6 [.mv (ci 0),.mv (ci 1)]
def c17r3 : List GOp:=gS 28 [.mv 0,.nilck 28,.fadd 2 29,.load 1 false 30,.len false 31,.bin .geq 32 (ci 4000)]
def c17r4 : List GOp:=gS 6 [.mv (ci 0),.mv (ci 3)]
def c17r5 : List GOp:=gS 34 [.mv 0,.mv 1,.call 26 [34,35],.bin .neq 36 (ci 0)]
def c17r6 : List GOp:=gS 6 [.mv (ci 0),.mv (ci 16)]
def c17r7 : List GOp:=gS 38 [.mv 0,.nilck 38,.fadd 0 39,.load 1 false 40,.bin .add 41 (ci 1),.bin .mul 42 (ci 10000),.mv 0,.nilck 44,.fadd 2 45,.load 1 false 46,.len false 47,.bin .add 43 48,.bin .add 49 (ci 1)]++gS 8 [.mv 50]
def c17r8 : List GOp:=gS 51 [.mv 0,.bslice 35 5 0 (.agg #[oz,oz,oz,(.string ⟨#[]⟩),(.slice none 0 0)]) [],.mv 0,.nilck 53,.fadd 2 54,.load 1 false 55,.app 35 5 64 (.agg #[oz,oz,oz,(.string ⟨#[]⟩),(.slice none 0 0)]) 52 56,.mv 8,.mv 0,.nilck 59,.fadd 0 60,.load 1 false 61,.mv 1,.mv 2,.build (.agg #[oz,oz,oz,(.string ⟨#[]⟩),(.slice none 0 0)]) [((0,1),58),((1,1),62),((2,1),63),((3,1),64)],.bslice 35 5 1 (.agg #[oz,oz,oz,(.string ⟨#[]⟩),(.slice none 0 0)]) [(0,65)],.app 35 5 64 (.agg #[oz,oz,oz,(.string ⟨#[]⟩),(.slice none 0 0)]) 57 66,.nilck 51,.fadd 2 68]
def c17r8z : GOp:=⟨none,.store 1 69 67,none⟩
def c17r9 : List GOp:=gS 70 [.mv 0,.bslice 3 1 0 oz [],.mv 0,.nilck 72,.fadd 3 73,.load 1 false 74,.app 3 1 8 oz 71 75,.bslice 3 1 1 oz [(0,(ci 0))],.app 3 1 8 oz 76 77,.nilck 70,.fadd 3 79]++[⟨none,.store 1 80 78,none⟩]
def c17r10 : List GOp:=gS 81 [.mv 8]++gS 6 [.mv 81,.mv (ci 0)]
def c17 : EFn:=⟨82,.seq (.reg c17r0) (.seq (.join (.reg c17r1) (.cond 27 (.seq (.reg c17r2) (.ret)) (.skip))) (.seq (.seq (.reg c17r3) (.cond 33 (.seq (.reg c17r4) (.ret)) (.skip))) (.seq (.join (.reg c17r5) (.cond 37 (.seq (.reg c17r6) (.ret)) (.skip))) (.seq (.par true true true true 11 c17r7) (.seq (.hyl true true true 17 c17r8 c17r8z) (.seq (.reg c17r9) (.seq (.reg c17r10) (.ret)))))))),[.tmp 6,.tmp 7]⟩
theorem c17_ok : compF Tryz.prog 17=some c17.er:=by kernel_rfl
set_option maxHeartbeats 8000000 in
theorem ref32_Registry_Issue_R {P:Program}(hP:P=Tryz.prog)(show0:Int)(places0:Int)(titles0:(List Title))(gone0:(List Int))(place:Int)(first:ByteArray)(r:Int×Int×(List Title)×(List Int))(h:ref32_Registry_Issue_b show0 places0 titles0 gone0 place first=some r):SCall P 17 [.cells [oi show0,oi places0,dq eTitle titles0,dq eIi64 gone0] 76] [.ptr 0 0,oi place,.d (.val (.string first))] (fun sv own'=>sv=.tup [oi r.1,oi r.2.1]∧own'=[.cells [oi show0,oi places0,dq eTitle r.2.2.1,dq eIi64 r.2.2.2] 76]):=by
 refine .walkF 1 rfl (Nat.le_of_ble_eq_true rfl) (hP▸c17_ok) fun K hK=>?_;unfold ref32_Registry_Issue_b at h;cbv;refine .g h (fun (v1:Bool)=>[.ptr 0 0,oi place,.d (.val (.string first))]++rp 24 .top++[ob v1]++rp 54 .top) (fun v1=>[.cells [oi show0,oi places0,dq eTitle titles0,dq eIi64 gone0] 76]) (fun y hm Kn1 hKn1=>?_) fun t h=>?_
 ·have h:=hm;clear hm;cbv;refine brkG h ?_ ?_<;>intro h
  ·cbv;obtain rfl:=oj h;exact hKn1 _ _ _ rfl (.nz (.mtE [0] mx))
  ·cbv;refine brkG h ?_ ?_<;>intro h
   ·cbv;obtain rfl:=oj h;exact hKn1 _ _ _ rfl (.nz (.mtE [0] mx))
   ·cbv;refine .g h (fun v hv=>ref02_Is_R hP _ v hv) aw_ rfl (fun _=>rfl) fun v2 h=>?_;cbv;obtain rfl:=oj h;exact hKn1 _ _ _ rfl (.nz (.mtE [0] mx))
 obtain⟨v1,rfl⟩:=ez t;cbv;refine brkG h ?_ ?_<;>intro h
 ·cbv;obtain rfl:=oj h;exact hK _ _ [] [0] mx
 ·cbv;refine brkG h ?_ ?_<;>intro h
  ·cbv;obtain rfl:=oj h;exact hK _ _ [] [0] mx
  ·cbv;refine .g h (fun (v3:Bool)=>[.ptr 0 0,oi place,.d (.val (.string first))]++rp 34 .top++[ob v3]++rp 44 .top) (fun v3=>[.cells [oi show0,oi places0,dq eTitle titles0,dq eIi64 gone0] 76]) (fun y hm Kn1 hKn1=>?_) fun t h=>?_
   ·have h:=hm;clear hm;cbv;obtain⟨r4,hm,h⟩:=Option.bind_eq_some_iff.1 h;refine .embL [0] (ref32_Registry_At_R hP _ _ _ _ _ _ hm) mx fun sv0 own0 hq _=>?_;obtain⟨rfl,rfl⟩:=hq;clear hm;cbv;obtain rfl:=oj h;exact hKn1 _ _ _ rfl (.nz (.mtE [0] mx))
   obtain⟨v3,rfl⟩:=ez t;cbv;refine brkG h ?_ ?_<;>intro h
   ·cbv;obtain rfl:=oj h;exact hK _ _ [] [0] mx
   ·cbv;refine .g (e:=eTitle) h (W_nil' _) fun l5 h=>?_;cbv;refine .g h rfl (fun _=>rfl) (by decide) fun l6 h=>?_;cbv;refine .g (e:=eTitle) h (W_cons aw_ (W_nil' _)) fun l7 h=>?_;cbv;refine .g h rfl (fun _=>rfl) (by decide) fun l8 h=>?_;cbv;refine .g (e:=eIi64) h (W_nil' _) fun l9 h=>?_;cbv;refine .g h rfl (fun _=>rfl) (by decide) fun l10 h=>?_;cbv;refine .g (e:=eIi64) h (W_cons aw_ (W_nil' _)) fun l11 h=>?_;cbv;refine .g h rfl (fun _=>rfl) (by decide) fun l12 h=>?_;cbv;obtain rfl:=oj h;exact hK _ _ [.hd 3,.hd 7] [0] mx
set_option maxHeartbeats 4000000 in
theorem ref32_Registry_Issue_nil_R {P:Program}(hP:P=Tryz.prog)(place:Int)(first:ByteArray)(r:Int×Int)(h:ref32_Registry_Issue_nil_g place first=some r):Fn1 P 17 [.d (.val (.pointer none)),vIi64 place,vS first] (.tup [vIi64 r.1,vIi64 r.2]):=by
 refine .walkE (hP▸c17_ok) fun K hK=>?_;unfold ref32_Registry_Issue_nil_g at h;cbv;refine .g h (fun (_:Unit)=>[.d (.val (.pointer none)),oi place,.d (.val (.string first))]++rp 24 .top++[ob true]++rp 54 .top) (fun _=>[]) (fun y hm Kn1 hKn1=>?_) fun t h=>?_
 ·have h:=hm;clear hm;cbv;obtain rfl:=oj h;exact hKn1 _ _ _ rfl (.nz (.mtE [] mx))
 cbv;obtain rfl:=oj h;exact hK _ _ aw_
end Go.SX.Rg
namespace Go.SX.Rg
open Go Go.SX Go.Proofs
set_option maxRecDepth 100000
noncomputable def ref32_Registry_find_b (show0:Int)(places0:Int)(titles0:(List Title))(gone0:(List Int))(serial:Int):Option (Int×Int) :=
 Option.bind (
 bif (io.lt serial 0) then (
 some true
 ) else (
 bif (io.lt (io.ar .sub .i64 (io.ar .sub .i64 serial (io.ar .mul .i64 (io.ar .add .i64 show0 1) 10000)) 1) 0) then (
 some true
 ) else (
 some (io.le (io.len (W eTitle titles0)) (io.ar .sub .i64 (io.ar .sub .i64 serial (io.ar .mul .i64 (io.ar .add .i64 show0 1) 10000)) 1))
 )
 )
 ) fun v1 =>
 bif v1 then (
 some ((-1),11)
 ) else (
 Option.bind (idxG gone0 (io.ar .sub .i64 (io.ar .sub .i64 serial (io.ar .mul .i64 (io.ar .add .i64 show0 1) 10000)) 1)) fun x2 =>
 bif (io.lt 0 x2) then (
 some ((io.ar .sub .i64 (io.ar .sub .i64 serial (io.ar .mul .i64 (io.ar .add .i64 show0 1) 10000)) 1),27)
 ) else (
 some ((io.ar .sub .i64 (io.ar .sub .i64 serial (io.ar .mul .i64 (io.ar .add .i64 show0 1) 10000)) 1),0)
 )
 )
end Go.SX.Rg
namespace Go.SX.Rg
open Go Go.SX Go.Proofs
set_option maxRecDepth 100000
noncomputable def ref32_Registry_put_b (show0:Int)(places0:Int)(titles0:(List Title))(gone0:(List Int))(i:Int)(t_:Title)(gone:Int):Option ((List Title)×(List Int)) :=
 Option.bind (some ([]:List Title)) fun l1 =>
 Option.bind (appG l1 titles0) fun l2 =>
 Option.bind (rixG l2 i) fun i3 =>
 Option.bind (updG l2 i3 fun y4=>t_) fun l5 =>
 Option.bind (some ([]:List Int)) fun l6 =>
 Option.bind (appG l6 gone0) fun l7 =>
 Option.bind (rixG l7 i) fun ix8 =>
 Option.bind (updG l7 ix8 fun y9=>gone) fun l10 =>
 some (l5,l10)
end Go.SX.Rg
namespace Go.SX.Rg
open Go Go.SX Go.Proofs
set_option maxRecDepth 100000
noncomputable def ref32_Registry_Revoke_b (show0:Int)(places0:Int)(titles0:(List Title))(gone0:(List Int))(serial:Int)(now:Int):Option (Int×(List Title)×(List Int)) :=
 Option.bind (
 bif (io.lt now 1) then (
 some true
 ) else (
 some (io.lt 1000000000 now)
 )
 ) fun v1 =>
 bif v1 then (
 some (1,titles0,gone0)
 ) else (
 Option.bind (
 Option.bind (ref32_Registry_find_b show0 places0 titles0 gone0 serial) fun r4 =>
 some (r4.1,r4.2)
 ) fun (i2,e3) =>
 Option.bind (
 bif (io.eq e3 0) then (
 Option.bind (idxG titles0 i2) fun x7 =>
 Option.bind (ref32_Registry_put_b show0 places0 titles0 gone0 i2 x7 now) fun r8 =>
 some (r8.1,r8.2)
 ) else (
 some (titles0,gone0)
 )
 ) fun (Titles5,Gone6) =>
 some (e3,Titles5,Gone6)
 )
noncomputable def ref32_Registry_Revoke_nil_g (serial:Int)(now:Int):Option (Int) :=
 Option.bind (
 some ()
 ) fun _ =>
 some 1
end Go.SX.Rg
namespace Go.SX.Rg
open Go Go.SX Go.Proofs
set_option maxRecDepth 100000
noncomputable def ref32_Registry_Title_b (show0:Int)(places0:Int)(titles0:(List Title))(gone0:(List Int))(serial:Int):Option (Title×Int×Int) :=
 Option.bind (
 Option.bind (
 bif (io.lt serial 0) then (
 some true
 ) else (
 bif (io.lt (io.ar .sub .i64 (io.ar .sub .i64 serial (io.ar .mul .i64 (io.ar .add .i64 show0 1) 10000)) 1) 0) then (
 some true
 ) else (
 some (io.le (io.len (W eTitle titles0)) (io.ar .sub .i64 (io.ar .sub .i64 serial (io.ar .mul .i64 (io.ar .add .i64 show0 1) 10000)) 1))
 )
 )
 ) fun v3 =>
 bif v3 then (
 some ((-1),11)
 ) else (
 Option.bind (idxG gone0 (io.ar .sub .i64 (io.ar .sub .i64 serial (io.ar .mul .i64 (io.ar .add .i64 show0 1) 10000)) 1)) fun x4 =>
 bif (io.lt 0 x4) then (
 some ((io.ar .sub .i64 (io.ar .sub .i64 serial (io.ar .mul .i64 (io.ar .add .i64 show0 1) 10000)) 1),27)
 ) else (
 some ((io.ar .sub .i64 (io.ar .sub .i64 serial (io.ar .mul .i64 (io.ar .add .i64 show0 1) 10000)) 1),0)
 )
 )
 ) fun (i1,e2) =>
 bif (io.eq e2 11) then (
 some ((Title.mk 0 0 0 (⟨#[]⟩) []),0,e2)
 ) else (
 Option.bind (idxG titles0 i1) fun x5 =>
 Option.bind (idxG gone0 i1) fun x6 =>
 some (x5,x6,0)
 )
noncomputable def ref32_Registry_Title_nil_g (serial:Int):Option (Title×Int×Int) :=
 some ((Title.mk 0 0 0 (⟨#[]⟩) []),0,1)
end Go.SX.Rg
namespace Go.SX.Rg
open Go Go.SX Go.Proofs
set_option maxRecDepth 100000
def c48r0 : List GOp:=gS 4 [.mv (ci 0),.mv (ci 0)]
def c48r1 : List GOp:=gS 7 [.mv 1,.mv 0,.nilck 8,.fadd 0 9,.load 1 false 10,.bin .add 11 (ci 1),.bin .mul 12 (ci 10000),.bin .sub 7 13,.bin .sub 14 (ci 1)]++gS 6 [.mv 15]
def c48r2 : List GOp:=gS 16 [.mv 1,.bin .lss 16 (ci 0),.mv 17]++gQ 18 false 19 [.mv 6,.bin .lss 19 (ci 0)]++gS 21 [.pick 18 (cB true) 20,.mv 21]++gQ 22 false 23 [.mv 6,.mv 0,.nilck 24,.fadd 2 25,.load 1 false 26,.len false 27,.bin .geq 23 28]++gS 30 [.pick 22 (cB true) 29]
def c48r3 : List GOp:=gS 4 [.mv (ci (-1)),.mv (ci 11)]
def c48r4 : List GOp:=gS 31 [.mv 0,.nilck 31,.fadd 3 32,.load 1 false 33,.mv 6,.idxA 1 34 35,.load 1 false 36,.bin .gtr 37 (ci 0)]
def c48r5 : List GOp:=gS 39 [.mv 6]++gS 4 [.mv 39,.mv (ci 27)]
def c48r6 : List GOp:=gS 40 [.mv 6]++gS 4 [.mv 40,.mv (ci 0)]
def c48 : EFn:=⟨41,.seq (.reg c48r0) (.seq (.reg c48r1) (.seq (.join (.reg c48r2) (.cond 30 (.seq (.reg c48r3) (.ret)) (.skip))) (.seq (.seq (.reg c48r4) (.cond 38 (.seq (.reg c48r5) (.ret)) (.skip))) (.seq (.reg c48r6) (.ret))))),[.tmp 4,.tmp 5]⟩
theorem c48_ok : compF Tryz.prog 48=some c48.er:=by kernel_rfl
def c27r0 : List GOp:=gS 4 [.alloc 35 (.agg #[oz,oz,oz,(.string ⟨#[]⟩),(.slice none 0 0)]),.mv (ci 0),.mv (ci 0)]
def c27r1 : List GOp:=gS 9 [.mv 0,.pnil false 9]
def c27r2 : List GOp:=gS 11 [.build (.agg #[oz,oz,oz,(.string ⟨#[]⟩),(.slice none 0 0)]) []]++[⟨none,.store 5 4 11,none⟩]++gS 5 [.mv (ci 0),.mv (ci 1)]
def c27r3 : List GOp:=gS 13 [.mv 0,.mv 1,.call 48 [13,14]]++gS 12 [.mv 15]++gS 16 [.ext 12 0,.ext 12 1]++gS 7 [.mv 16,.mv 17]
def c27r4 : List GOp:=gS 18 [.mv 8,.bin .eql 18 (ci 11)]
def c27r5 : List GOp:=gS 20 [.build (.agg #[oz,oz,oz,(.string ⟨#[]⟩),(.slice none 0 0)]) [],.mv 8]++[⟨none,.store 5 4 20,none⟩]++gS 5 [.mv (ci 0),.mv 21]
def c27r6 : List GOp:=gS 22 [.mv 0,.nilck 22,.fadd 2 23,.load 1 false 24,.mv 7,.idxA 5 25 26,.load 5 true 27,.mv 0,.nilck 29,.fadd 3 30,.load 1 false 31,.mv 7,.idxA 1 32 33,.load 1 false 34]++[⟨none,.store 5 4 28,none⟩]++gS 5 [.mv 35,.mv (ci 0)]
def c27 : EFn:=⟨36,.seq (.reg c27r0) (.seq (.seq (.reg c27r1) (.cond 10 (.seq (.reg c27r2) (.ret)) (.skip))) (.join (.reg c27r3) (.seq (.seq (.reg c27r4) (.cond 19 (.seq (.reg c27r5) (.ret)) (.skip))) (.seq (.hys true true true 15 c27r6) (.ret))))),[.cell 4 5 true,.tmp 5,.tmp 6]⟩
theorem c27_ok : compF Tryz.prog 27=some c27.er:=by kernel_rfl
set_option maxHeartbeats 8000000 in
theorem ref32_Registry_Title_R {P:Program}(hP:P=Tryz.prog)(show0:Int)(places0:Int)(titles0:(List Title))(gone0:(List Int))(serial:Int)(r:Title×Int×Int)(h:ref32_Registry_Title_b show0 places0 titles0 gone0 serial=some r):SCall P 27 [.cells [oi show0,oi places0,dq eTitle titles0,dq eIi64 gone0] 76] [.ptr 0 0,oi serial] (fun sv own'=>sv=.tup [.agg [oi r.1.Serial,oi r.1.Show,oi r.1.Place,.d (.val (.string r.1.First)),dq eTransfer r.1.Chain],oi r.2.1,oi r.2.2]∧own'=[.cells [oi show0,oi places0,dq eTitle titles0,dq eIi64 gone0] 76]):=by
 refine .walkF 1 rfl (Nat.le_of_ble_eq_true rfl) (hP▸c27_ok) fun K hK=>?_;unfold ref32_Registry_Title_b at h;cbv;refine .g h (fun ((i1,e2):Int×Int)=>[.ptr 0 0]++rp 3 .top++[.ptr 1 0,.top,.top,oi i1,oi e2]++rp 27 .top) (fun (i1,e2)=>[.cells [oi show0,oi places0,dq eTitle titles0,dq eIi64 gone0] 76,.cells [oi 0,oi 0,oi 0,.d (.val (.string (⟨#[]⟩))),.d (.val (.slice none 0 0))] 35]) (fun y hm Kn1 hKn1=>?_) fun t h=>?_
 ·have h:=hm;clear hm;cbv;refine .inl (hP▸c48_ok) ?_;cbv;refine .g h (fun (v3:Bool)=>[.ptr 0 0]++rp 5 .top++[oi (io.ar .sub .i64 (io.ar .sub .i64 serial (io.ar .mul .i64 (io.ar .add .i64 show0 1) 10000)) 1)]++rp 23 .top++[ob v3]++rp 10 .top) (fun v3=>[.cells [oi show0,oi places0,dq eTitle titles0,dq eIi64 gone0] 76,.cells [oi 0,oi 0,oi 0,.d (.val (.string (⟨#[]⟩))),.d (.val (.slice none 0 0))] 35]) (fun y hm Kn2 hKn2=>?_) fun t h=>?_
  ·have h:=hm;clear hm;cbv;refine brkG h ?_ ?_<;>intro h
   ·cbv;obtain rfl:=oj h;exact hKn2 _ _ _ rfl (.nz (.mtE [0,1] mx))
   ·cbv;refine brkG h ?_ ?_<;>intro h
    ·cbv;obtain rfl:=oj h;exact hKn2 _ _ _ rfl (.nz (.mtE [0,1] mx))
    ·cbv;obtain rfl:=oj h;exact hKn2 _ _ _ rfl (.nz (.mtE [0,1] mx))
  obtain⟨v3,rfl⟩:=ez t;cbv;refine brkG h ?_ ?_<;>intro h
  ·cbv;obtain rfl:=oj h;exact hKn1 _ _ _ rfl (.nz (.mtE [0,1] mx))
  ·cbv;refine .g h (fun _=>rfl) fun x4 h=>?_;cbv;refine brkG h ?_ ?_<;>intro h
   ·cbv;obtain rfl:=oj h;exact hKn1 _ _ _ rfl (.nz (.mtE [0,1] mx))
   ·cbv;obtain rfl:=oj h;exact hKn1 _ _ _ rfl (.nz (.mtE [0,1] mx))
 obtain⟨i1,e2⟩:=t;cbv;refine brkG h ?_ ?_<;>intro h
 ·cbv;obtain rfl:=oj h;exact hK _ _ [] [0] mx
 ·cbv;refine .g [1] ?_;cbv;refine .g h (fun _=>rfl) fun x5 h=>?_;cbv;refine .g h (fun _=>rfl) fun x6 h=>?_;cbv;obtain rfl:=oj h;exact hK _ _ [] [0] mx
set_option maxHeartbeats 4000000 in
theorem ref32_Registry_Title_nil_R {P:Program}(hP:P=Tryz.prog)(serial:Int)(r:Title×Int×Int)(h:ref32_Registry_Title_nil_g serial=some r):Fn1 P 27 [.d (.val (.pointer none)),vIi64 serial] (.tup [vTitle r.1,vIi64 r.2.1,vIi64 r.2.2]):=by
 refine .walkE2 (hP▸c27_ok) fun K hK=>?_;unfold ref32_Registry_Title_nil_g at h;cbv;obtain rfl:=oj h;exact hK _ _ aw_
end Go.SX.Rg
namespace Go.SX.Rg
open Go Go.SX Go.Proofs
set_option maxRecDepth 100000
set_option maxHeartbeats 8000000 in
theorem ref32_Registry_find_R {P:Program}(hP:P=Tryz.prog)(show0:Int)(places0:Int)(titles0:(List Title))(gone0:(List Int))(serial:Int)(r:Int×Int)(h:ref32_Registry_find_b show0 places0 titles0 gone0 serial=some r):SCall P 48 [.cells [oi show0,oi places0,dq eTitle titles0,dq eIi64 gone0] 76] [.ptr 0 0,oi serial] (fun sv own'=>sv=.tup [oi r.1,oi r.2]∧own'=[.cells [oi show0,oi places0,dq eTitle titles0,dq eIi64 gone0] 76]):=by
 refine .walkF 1 rfl (Nat.le_of_ble_eq_true rfl) (hP▸c48_ok) fun K hK=>?_;unfold ref32_Registry_find_b at h;cbv;refine .g h (fun (v1:Bool)=>[.ptr 0 0]++rp 5 .top++[oi (io.ar .sub .i64 (io.ar .sub .i64 serial (io.ar .mul .i64 (io.ar .add .i64 show0 1) 10000)) 1)]++rp 23 .top++[ob v1]++rp 10 .top) (fun v1=>[.cells [oi show0,oi places0,dq eTitle titles0,dq eIi64 gone0] 76]) (fun y hm Kn1 hKn1=>?_) fun t h=>?_
 ·have h:=hm;clear hm;cbv;refine brkG h ?_ ?_<;>intro h
  ·cbv;obtain rfl:=oj h;exact hKn1 _ _ _ rfl (.nz (.mtE [0] mx))
  ·cbv;refine brkG h ?_ ?_<;>intro h
   ·cbv;obtain rfl:=oj h;exact hKn1 _ _ _ rfl (.nz (.mtE [0] mx))
   ·cbv;obtain rfl:=oj h;exact hKn1 _ _ _ rfl (.nz (.mtE [0] mx))
 obtain⟨v1,rfl⟩:=ez t;cbv;refine brkG h ?_ ?_<;>intro h
 ·cbv;obtain rfl:=oj h;exact hK _ _ [] [0] mx
 ·cbv;refine .g h (fun _=>rfl) fun x2 h=>?_;cbv;refine brkG h ?_ ?_<;>intro h
  ·cbv;obtain rfl:=oj h;exact hK _ _ [] [0] mx
  ·cbv;obtain rfl:=oj h;exact hK _ _ [] [0] mx
end Go.SX.Rg
namespace Go.SX.Rg
open Go Go.SX Go.Proofs
set_option maxRecDepth 100000
def c49r0 : List GOp:=gS 6 [.box 35 2]
def c49r1 : List GOp:=gS 8 [.mv 0,.bslice 35 5 0 (.agg #[oz,oz,oz,(.string ⟨#[]⟩),(.slice none 0 0)]) [],.mv 0,.nilck 10,.fadd 2 11,.load 1 false 12,.app 35 5 64 (.agg #[oz,oz,oz,(.string ⟨#[]⟩),(.slice none 0 0)]) 9 13,.nilck 8,.fadd 2 15]++[⟨none,.store 1 16 14,none⟩]
def c49r2 : List GOp:=gS 17 [.mv 0,.nilck 17,.fadd 2 18,.load 1 false 19,.mv 1,.load 5 true 6]
def c49r2z : List GOp:=gS 23 [.idxA 5 20 21]++[⟨none,.store 5 23 22,none⟩]
def c49r3 : List GOp:=gS 24 [.mv 0,.bslice 3 1 0 oz [],.mv 0,.nilck 26,.fadd 3 27,.load 1 false 28,.app 3 1 8 oz 25 29,.nilck 24,.fadd 3 31]++[⟨none,.store 1 32 30,none⟩]
def c49r4 : List GOp:=gS 33 [.mv 0,.nilck 33,.fadd 3 34,.load 1 false 35,.mv 1,.mv 3,.idxA 1 36 37]++[⟨none,.store 1 39 38,none⟩]
def c49 : EFn:=⟨40,.seq (.reg c49r0) (.seq (.reg c49r1) (.seq (.sfx true true true true c49r2 c49r2z) (.seq (.reg c49r3) (.reg c49r4)))),[]⟩
theorem c49_ok : compF Tryz.prog 49=some c49.er:=by kernel_rfl
set_option maxHeartbeats 8000000 in
theorem ref32_Registry_put_R {P:Program}(hP:P=Tryz.prog)(show0:Int)(places0:Int)(titles0:(List Title))(gone0:(List Int))(i:Int)(t_:Title)(gone:Int)(r:(List Title)×(List Int))(h:ref32_Registry_put_b show0 places0 titles0 gone0 i t_ gone=some r):SCall P 49 [.cells [oi show0,oi places0,dq eTitle titles0,dq eIi64 gone0] 76] [.ptr 0 0,oi i,.agg [oi t_.Serial,oi t_.Show,oi t_.Place,.d (.val (.string t_.First)),dq eTransfer t_.Chain],oi gone] (fun sv own'=>sv=.tup []∧own'=[.cells [oi show0,oi places0,dq eTitle r.1,dq eIi64 r.2] 76]):=by
 refine .walkF 1 rfl (Nat.le_of_ble_eq_true rfl) (hP▸c49_ok) fun K hK=>?_;unfold ref32_Registry_put_b at h;cbv;refine .g (e:=eTitle) h (W_nil' _) fun l1 h=>?_;cbv;refine .g h rfl (fun _=>rfl) (by decide) fun l2 h=>?_;cbv;refine .g h fun i3 h=>?_;cbv;refine .g h (fun _=>by first | rfl | exact W_nil _ | (cbv;simp only[W_nilx])) fun l5 h=>?_;cbv;refine .g (e:=eIi64) h (W_nil' _) fun l6 h=>?_;cbv;refine .g h rfl (fun _=>rfl) (by decide) fun l7 h=>?_;cbv;refine .g h fun ix8 h=>?_;cbv;refine .g h (fun _=>by first | rfl | exact W_nil _ | (cbv;simp only[W_nilx])) fun l10 h=>?_;cbv;obtain rfl:=oj h;exact hK _ _ [.hd 3,.hd 5] [0] mx
end Go.SX.Rg
namespace Go.SX.Rg
open Go Go.SX Go.Proofs
set_option maxRecDepth 100000
def c18r0 : List GOp:=gS 6 [.mv (ci 0)]
def c18r1 : List GOp:=gS 9 [.mv 0,.pnil false 9,.mv 10]++gQ 11 false 12 [.mv 2,.bin .lss 12 (ci 1)]++gS 14 [.pick 11 (cB true) 13,.mv 14]++gQ 15 false 16 [.mv 2,.bin .gtr 16 (ci 1000000000)]++gS 18 [.pick 15 (cB true) 17]
def c18r2 : List GOp:=gS 6 [.mv (ci 1)]
def c18r3 : List GOp:=gS 20 [.mv 0,.mv 1,.call 48 [20,21]]++gS 19 [.mv 22]++gS 23 [.ext 19 0,.ext 19 1]++gS 7 [.mv 23,.mv 24]
def c18r4 : List GOp:=gS 25 [.mv 8,.bin .eql 25 (ci 0)]
def c18r5 : List GOp:=gS 27 [.mv 0,.mv 7,.mv 0,.nilck 29,.fadd 2 30,.load 1 false 31,.mv 7,.idxA 5 32 33,.load 5 true 34,.mv 2,.call 49 [27,28,35,36]]
def c18r6 : List GOp:=gS 38 [.mv 8]++gS 6 [.mv 38]
def c18 : EFn:=⟨39,.seq (.reg c18r0) (.seq (.join (.reg c18r1) (.cond 18 (.seq (.reg c18r2) (.ret)) (.skip))) (.join (.reg c18r3) (.join (.seq (.reg c18r4) (.cond 26 (.reg c18r5) (.skip))) (.seq (.reg c18r6) (.ret))))),[.tmp 6]⟩
theorem c18_ok : compF Tryz.prog 18=some c18.er:=by kernel_rfl
set_option maxHeartbeats 8000000 in
theorem ref32_Registry_Revoke_R {P:Program}(hP:P=Tryz.prog)(show0:Int)(places0:Int)(titles0:(List Title))(gone0:(List Int))(serial:Int)(now:Int)(r:Int×(List Title)×(List Int))(h:ref32_Registry_Revoke_b show0 places0 titles0 gone0 serial now=some r):SCall P 18 [.cells [oi show0,oi places0,dq eTitle titles0,dq eIi64 gone0] 76] [.ptr 0 0,oi serial,oi now] (fun sv own'=>sv=oi r.1∧own'=[.cells [oi show0,oi places0,dq eTitle r.2.1,dq eIi64 r.2.2] 76]):=by
 refine .walkF 1 rfl (Nat.le_of_ble_eq_true rfl) (hP▸c18_ok) fun K hK=>?_;unfold ref32_Registry_Revoke_b at h;cbv;refine .g h (fun (v1:Bool)=>[.ptr 0 0,oi serial,oi now]++rp 15 .top++[ob v1]++rp 20 .top) (fun v1=>[.cells [oi show0,oi places0,dq eTitle titles0,dq eIi64 gone0] 76]) (fun y hm Kn1 hKn1=>?_) fun t h=>?_
 ·have h:=hm;clear hm;cbv;refine brkG h ?_ ?_<;>intro h
  ·cbv;obtain rfl:=oj h;exact hKn1 _ _ _ rfl (.nz (.mtE [0] mx))
  ·cbv;obtain rfl:=oj h;exact hKn1 _ _ _ rfl (.nz (.mtE [0] mx))
 obtain⟨v1,rfl⟩:=ez t;cbv;refine brkG h ?_ ?_<;>intro h
 ·cbv;obtain rfl:=oj h;exact hK _ _ [] [0] mx
 ·cbv;refine .g h (fun ((i2,e3):Int×Int)=>[.ptr 0 0,.top,oi now]++rp 4 .top++[oi i2,oi e3]++rp 30 .top) (fun (i2,e3)=>[.cells [oi show0,oi places0,dq eTitle titles0,dq eIi64 gone0] 76]) (fun y hm Kn1 hKn1=>?_) fun t h=>?_
  ·have h:=hm;clear hm;cbv;obtain⟨r4,hm,h⟩:=Option.bind_eq_some_iff.1 h;refine .embL [0] (ref32_Registry_find_R hP _ _ _ _ _ _ hm) mx fun sv0 own0 hq _=>?_;obtain⟨rfl,rfl⟩:=hq;clear hm;cbv;obtain rfl:=oj h;exact hKn1 _ _ _ rfl (.nz (.mtE [0] mx))
  obtain⟨i2,e3⟩:=t;cbv;refine .g h (fun ((Titles5,Gone6):(List Title)×(List Int))=>rp 8 .top++[oi e3]++rp 30 .top) (fun (Titles5,Gone6)=>[.cells [oi show0,oi places0,dq eTitle Titles5,dq eIi64 Gone6] 76]) (fun y hm Kn1 hKn1=>?_) fun t h=>?_
  ·have h:=hm;clear hm;cbv;refine brkG h ?_ ?_<;>intro h
   ·cbv;refine .g h (fun _=>rfl) fun x7 h=>?_;cbv;obtain⟨r8,hm,h⟩:=Option.bind_eq_some_iff.1 h;refine .embL [0] (ref32_Registry_put_R hP _ _ _ _ _ _ _ _ hm) mx fun sv0 own0 hq _=>?_;obtain⟨rfl,rfl⟩:=hq;clear hm;cbv;obtain rfl:=oj h;exact hKn1 _ _ _ rfl (.nz (.mtE [0] mx))
   ·cbv;obtain rfl:=oj h;exact hKn1 _ _ _ rfl (.nz (.mtE [0] mx))
  obtain⟨Titles5,Gone6⟩:=t;cbv;obtain rfl:=oj h;exact hK _ _ [] [0] mx
set_option maxHeartbeats 4000000 in
theorem ref32_Registry_Revoke_nil_R {P:Program}(hP:P=Tryz.prog)(serial:Int)(now:Int)(r:Int)(h:ref32_Registry_Revoke_nil_g serial now=some r):Fn1 P 18 [.d (.val (.pointer none)),vIi64 serial,vIi64 now] (vIi64 r):=by
 refine .walkE (hP▸c18_ok) fun K hK=>?_;unfold ref32_Registry_Revoke_nil_g at h;cbv;refine .g h (fun (_:Unit)=>[.d (.val (.pointer none)),oi serial,oi now]++rp 15 .top++[ob true]++rp 20 .top) (fun _=>[]) (fun y hm Kn1 hKn1=>?_) fun t h=>?_
 ·have h:=hm;clear hm;cbv;obtain rfl:=oj h;exact hKn1 _ _ _ rfl (.nz (.mtE [] mx))
 cbv;obtain rfl:=oj h;exact hK _ _ aw_
end Go.SX.Rg
namespace Go.SX.Rg
open Go Go.SX Go.Proofs
set_option maxRecDepth 100000
noncomputable def ref32_Registry_Move_b (show0:Int)(places0:Int)(titles0:(List Title))(gone0:(List Int))(serial:Int)(place:Int):Option (Int×(List Title)×(List Int)) :=
 Option.bind (
 bif (io.lt place (-1)) then (
 some true
 ) else (
 some (io.le places0 place)
 )
 ) fun v1 =>
 bif v1 then (
 some (1,titles0,gone0)
 ) else (
 Option.bind (
 Option.bind (ref32_Registry_find_b show0 places0 titles0 gone0 serial) fun r4 =>
 some (r4.1,r4.2)
 ) fun (i2,e3) =>
 bif (io.not (io.eq e3 0)) then (
 some (e3,titles0,gone0)
 ) else (
 Option.bind (
 Option.bind (ref32_Registry_At_b show0 places0 titles0 gone0 place) fun r6 =>
 some r6
 ) fun at5 =>
 Option.bind (
 bif (io.not (io.eq at5 0)) then (
 some (io.not (io.eq at5 serial))
 ) else (
 some false
 )
 ) fun v7 =>
 bif v7 then (
 some (16,titles0,gone0)
 ) else (
 Option.bind (idxG titles0 i2) fun x8 =>
 Option.bind (ref32_Registry_put_b show0 places0 titles0 gone0 i2 (Title.mk x8.Serial x8.Show place x8.First x8.Chain) 0) fun r9 =>
 some (0,r9.1,r9.2)
 )
 )
 )
noncomputable def ref32_Registry_Move_nil_g (serial:Int)(place:Int):Option (Int) :=
 Option.bind (
 some ()
 ) fun _ =>
 some 1
end Go.SX.Rg
namespace Go.SX.Rg
open Go Go.SX Go.Proofs
set_option maxRecDepth 100000
def c19r0 : List GOp:=gS 6 [.mv (ci 0)]
def c19r1 : List GOp:=gS 11 [.mv 0,.pnil false 11,.mv 12]++gQ 13 false 14 [.mv 2,.bin .lss 14 (ci (-1))]++gS 16 [.pick 13 (cB true) 15,.mv 16]++gQ 17 false 18 [.mv 2,.mv 0,.nilck 19,.fadd 1 20,.load 1 false 21,.bin .geq 18 22]++gS 24 [.pick 17 (cB true) 23]
def c19r2 : List GOp:=gS 6 [.mv (ci 1)]
def c19r3 : List GOp:=gS 26 [.mv 0,.mv 1,.call 48 [26,27]]++gS 25 [.mv 28]++gS 29 [.ext 25 0,.ext 25 1]++gS 7 [.mv 29,.mv 30]
def c19r4 : List GOp:=gS 31 [.mv 8,.bin .neq 31 (ci 0)]
def c19r5 : List GOp:=gS 33 [.mv 8]++gS 6 [.mv 33]
def c19r6 : List GOp:=gS 34 [.mv 0,.mv 2,.call 26 [34,35]]++gS 9 [.mv 36]
def c19r7 : List GOp:=gS 37 [.mv 9,.bin .neq 37 (ci 0),.mv 38]++gQ 39 true 40 [.mv 9,.mv 1,.bin .neq 40 41]++gS 43 [.pick 39 42 (cB false)]
def c19r8 : List GOp:=gS 6 [.mv (ci 16)]
def c19r9 : List GOp:=gS 44 [.mv 0,.nilck 44,.fadd 2 45,.load 1 false 46,.mv 7,.idxA 5 47 48,.load 5 true 49]++gS 10 [.alloc 35 (.agg #[oz,oz,oz,(.string ⟨#[]⟩),(.slice none 0 0)])]++[⟨none,.store 5 10 50,none⟩]
def c19r10 : List GOp:=gS 51 [.mv 2,.fadd 2 10]++[⟨none,.store 1 52 51,none⟩]
def c19r11 : List GOp:=gS 53 [.mv 0,.mv 7,.load 5 true 10,.call 49 [53,54,55,(ci 0)]]
def c19r12 : List GOp:=gS 6 [.mv (ci 0)]
def c19 : EFn:=⟨57,.seq (.reg c19r0) (.seq (.join (.reg c19r1) (.cond 24 (.seq (.reg c19r2) (.ret)) (.skip))) (.join (.reg c19r3) (.seq (.seq (.reg c19r4) (.cond 32 (.seq (.reg c19r5) (.ret)) (.skip))) (.join (.reg c19r6) (.seq (.join (.reg c19r7) (.cond 43 (.seq (.reg c19r8) (.ret)) (.skip))) (.seq (.reg c19r9) (.seq (.reg c19r10) (.seq (.reg c19r11) (.seq (.reg c19r12) (.ret)))))))))),[.tmp 6]⟩
theorem c19_ok : compF Tryz.prog 19=some c19.er:=by kernel_rfl
set_option maxHeartbeats 8000000 in
theorem ref32_Registry_Move_R {P:Program}(hP:P=Tryz.prog)(show0:Int)(places0:Int)(titles0:(List Title))(gone0:(List Int))(serial:Int)(place:Int)(r:Int×(List Title)×(List Int))(h:ref32_Registry_Move_b show0 places0 titles0 gone0 serial place=some r):SCall P 19 [.cells [oi show0,oi places0,dq eTitle titles0,dq eIi64 gone0] 76] [.ptr 0 0,oi serial,oi place] (fun sv own'=>sv=oi r.1∧own'=[.cells [oi show0,oi places0,dq eTitle r.2.1,dq eIi64 r.2.2] 76]):=by
 refine .walkF 1 rfl (Nat.le_of_ble_eq_true rfl) (hP▸c19_ok) fun K hK=>?_;unfold ref32_Registry_Move_b at h;cbv;refine .g h (fun (v1:Bool)=>[.ptr 0 0,oi serial,oi place]++rp 21 .top++[ob v1]++rp 32 .top) (fun v1=>[.cells [oi show0,oi places0,dq eTitle titles0,dq eIi64 gone0] 76]) (fun y hm Kn1 hKn1=>?_) fun t h=>?_
 ·have h:=hm;clear hm;cbv;refine brkG h ?_ ?_<;>intro h
  ·cbv;obtain rfl:=oj h;exact hKn1 _ _ _ rfl (.nz (.mtE [0] mx))
  ·cbv;obtain rfl:=oj h;exact hKn1 _ _ _ rfl (.nz (.mtE [0] mx))
 obtain⟨v1,rfl⟩:=ez t;cbv;refine brkG h ?_ ?_<;>intro h
 ·cbv;obtain rfl:=oj h;exact hK _ _ [] [0] mx
 ·cbv;refine .g h (fun ((i2,e3):Int×Int)=>[.ptr 0 0,oi serial,oi place]++rp 4 .top++[oi i2,oi e3]++rp 48 .top) (fun (i2,e3)=>[.cells [oi show0,oi places0,dq eTitle titles0,dq eIi64 gone0] 76]) (fun y hm Kn1 hKn1=>?_) fun t h=>?_
  ·have h:=hm;clear hm;cbv;obtain⟨r4,hm,h⟩:=Option.bind_eq_some_iff.1 h;refine .embL [0] (ref32_Registry_find_R hP _ _ _ _ _ _ hm) mx fun sv0 own0 hq _=>?_;obtain⟨rfl,rfl⟩:=hq;clear hm;cbv;obtain rfl:=oj h;exact hKn1 _ _ _ rfl (.nz (.mtE [0] mx))
  obtain⟨i2,e3⟩:=t;cbv;refine brkG h ?_ ?_<;>intro h
  ·cbv;obtain rfl:=oj h;exact hK _ _ [] [0] mx
  ·cbv;refine .g h (fun (at5:Int)=>[.ptr 0 0,oi serial,oi place]++rp 4 .top++[oi i2,.top,oi at5]++rp 47 .top) (fun at5=>[.cells [oi show0,oi places0,dq eTitle titles0,dq eIi64 gone0] 76]) (fun y hm Kn1 hKn1=>?_) fun t h=>?_
   ·have h:=hm;clear hm;cbv;obtain⟨r6,hm,h⟩:=Option.bind_eq_some_iff.1 h;refine .embL [0] (ref32_Registry_At_R hP _ _ _ _ _ _ hm) mx fun sv0 own0 hq _=>?_;obtain⟨rfl,rfl⟩:=hq;clear hm;cbv;obtain rfl:=oj h;exact hKn1 _ _ _ rfl (.nz (.mtE [0] mx))
   obtain⟨at5,rfl⟩:=ez t;cbv;refine .g h (fun (v7:Bool)=>[.ptr 0 0,.top,oi place]++rp 4 .top++[oi i2]++rp 35 .top++[ob v7]++rp 13 .top) (fun v7=>[.cells [oi show0,oi places0,dq eTitle titles0,dq eIi64 gone0] 76]) (fun y hm Kn1 hKn1=>?_) fun t h=>?_
   ·have h:=hm;clear hm;cbv;refine brkG h ?_ ?_<;>intro h
    ·cbv;obtain rfl:=oj h;exact hKn1 _ _ _ rfl (.nz (.mtE [0] mx))
    ·cbv;obtain rfl:=oj h;exact hKn1 _ _ _ rfl (.nz (.mtE [0] mx))
   obtain⟨v7,rfl⟩:=ez t;cbv;refine brkG h ?_ ?_<;>intro h
   ·cbv;obtain rfl:=oj h;exact hK _ _ [] [0] mx
   ·cbv;refine .g h (fun _=>rfl) fun x8 h=>?_;cbv;obtain⟨r9,hm,h⟩:=Option.bind_eq_some_iff.1 h;refine .embL [0] (ref32_Registry_put_R hP _ _ _ _ _ _ _ _ hm) mx fun sv0 own0 hq _=>?_;obtain⟨rfl,rfl⟩:=hq;clear hm;cbv;obtain rfl:=oj h;exact hK _ _ [] [0] mx
set_option maxHeartbeats 4000000 in
theorem ref32_Registry_Move_nil_R {P:Program}(hP:P=Tryz.prog)(serial:Int)(place:Int)(r:Int)(h:ref32_Registry_Move_nil_g serial place=some r):Fn1 P 19 [.d (.val (.pointer none)),vIi64 serial,vIi64 place] (vIi64 r):=by
 refine .walkE (hP▸c19_ok) fun K hK=>?_;unfold ref32_Registry_Move_nil_g at h;cbv;refine .g h (fun (_:Unit)=>[.d (.val (.pointer none)),oi serial,oi place]++rp 21 .top++[ob true]++rp 32 .top) (fun _=>[]) (fun y hm Kn1 hKn1=>?_) fun t h=>?_
 ·have h:=hm;clear hm;cbv;obtain rfl:=oj h;exact hKn1 _ _ _ rfl (.nz (.mtE [] mx))
 cbv;obtain rfl:=oj h;exact hK _ _ aw_
end Go.SX.Rg
namespace Go.SX.Rg
open Go Go.SX Go.Proofs
set_option maxRecDepth 100000
noncomputable def ref03_hex_g (c:Int):Option (Int) :=
 bif (io.le 97 c) then (
 some (io.ar .add .i64 (io.wrap .i64 (io.ar .sub .u8 c 97)) 10)
 ) else (
 some (io.wrap .i64 (io.ar .sub .u8 c 48))
 )
end Go.SX.Rg
namespace Go.SX.Rg
open Go Go.SX Go.Proofs
set_option maxRecDepth 100000
noncomputable def ref03_Digits_l2 (sum:ByteArray):((List Int)×Int×Int)→Option (((List Int)×Int×Int) ⊕ ((List Int)×Int))
 | (out3,rest4,i5) =>
 bif (io.lt i5 (io.ssz sum)) then (
 Option.bind (idxStr sum i5) fun b6 =>
 Option.bind (ref03_hex_g b6) fun d7 =>
 Option.bind (some [d7]) fun l8 =>
 Option.bind (appG out3 l8) fun out9 =>
 some (.inl (out9,(io.ar .add .i64 rest4 (io.ar .sub .i64 15 d7)),(io.ar .add .i64 i5 1)))
 ) else (
 some (.inr (out3,rest4))
 )
noncomputable def ref03_Digits_g (sum:ByteArray):Option ((List Int)) :=
 Option.bind (
 whileG (ref03_Digits_l2 sum) ([],0,0)
 ) fun (out1,rest2) =>
 Option.bind (divG 16) fun _ =>
 Option.bind (divG 16) fun _ =>
 Option.bind (some [(io.quo .i64 rest2 16),(io.rem rest2 16)]) fun l10 =>
 Option.bind (appG out1 l10) fun l11 =>
 some l11
end Go.SX.Rg
namespace Go.SX.Rg
open Go Go.SX Go.Proofs
set_option maxRecDepth 100000
noncomputable def ref02_mix_g (x_:Int):Option (Int) :=
 some (io.ar .xor .u64 (io.ar .mul .u64 (io.ar .xor .u64 (io.ar .mul .u64 (io.ar .xor .u64 x_ (io.shr .u64 x_ (.ofNat 32))) 11400714819323198485) (io.shr .u64 (io.ar .mul .u64 (io.ar .xor .u64 x_ (io.shr .u64 x_ (.ofNat 32))) 11400714819323198485) (.ofNat 29))) 13787848793156543929) (io.shr .u64 (io.ar .mul .u64 (io.ar .xor .u64 (io.ar .mul .u64 (io.ar .xor .u64 x_ (io.shr .u64 x_ (.ofNat 32))) 11400714819323198485) (io.shr .u64 (io.ar .mul .u64 (io.ar .xor .u64 x_ (io.shr .u64 x_ (.ofNat 32))) 11400714819323198485) (.ofNat 29))) 13787848793156543929) (.ofNat 32)))
end Go.SX.Rg
namespace Go.SX.Rg
open Go Go.SX Go.Proofs
set_option maxRecDepth 100000
noncomputable def ref02_Sum_l26 (from3:Int)(text:ByteArray):(Int×Int)→Option ((Int×Int) ⊕ (Int))
 | (block6,i7) =>
 bif (io.le 0 i7) then (
 Option.bind (
 Option.bind (
 bif (io.lt (io.ar .add .i64 from3 i7) (io.ssz text)) then (
 Option.bind (idxStr text (io.ar .add .i64 from3 i7)) fun b10 =>
 some (io.ar .add .u64 (io.ar .mul .u64 block6 256) (io.wrap .u64 b10))
 ) else (
 some (io.ar .mul .u64 block6 256)
 )
 ) fun block9 =>
 bif (io.eq (io.ar .add .i64 from3 i7) (io.ssz text)) then (
 some (io.ar .add .u64 block9 1)
 ) else (
 some block9
 )
 ) fun block8 =>
 some (.inl (block8,(io.ar .sub .i64 i7 1)))
 ) else (
 some (.inr block6)
 )
noncomputable def ref02_Sum_l22 (text:ByteArray):(Int×Int)→Option ((Int×Int) ⊕ (Int))
 | (state2,from3) =>
 bif (io.le from3 (io.ssz text)) then (
 Option.bind (
 Option.bind (
 whileG (ref02_Sum_l26 from3 text) (0,7)
 ) fun block5 =>
 Option.bind (ref02_mix_g (io.ar .xor .u64 state2 block5)) fun state11 =>
 some state11
 ) fun state4 =>
 some (.inl (state4,(io.ar .add .i64 from3 8)))
 ) else (
 some (.inr state2)
 )
noncomputable def ref02_Sum_l28 : (Int×ByteArray×Int)→Option ((Int×ByteArray×Int) ⊕ (ByteArray))
 | (state13,s14,i15) =>
 bif (io.lt i15 16) then (
 Option.bind (divG 16) fun _ =>
 Option.bind (divG 16) fun _ =>
 Option.bind (subS (⟨#[48,49,50,51,52,53,54,55,56,57,97,98,99,100,101,102]⟩) (io.rem state13 16) (io.ar .add .u64 (io.rem state13 16) 1)) fun z16 =>
 Option.bind (catG z16 s14) fun _ =>
 Option.bind (divG 16) fun _ =>
 some (.inl ((io.quo .u64 state13 16),(io.cat z16 s14),(io.ar .add .i64 i15 1)))
 ) else (
 some (.inr s14)
 )
noncomputable def ref02_Sum_g (text:ByteArray):Option (ByteArray) :=
 Option.bind (
 whileG (ref02_Sum_l22 text) (7046029254386353131,0)
 ) fun state1 =>
 Option.bind (
 whileG (ref02_Sum_l28) (state1,⟨#[]⟩,0)
 ) fun s12 =>
 some s12
end Go.SX.Rg
namespace Go.SX.Rg
open Go Go.SX Go.Proofs
set_option maxRecDepth 100000
noncomputable def ref02_Chain_l336 (from7:Int)(text2:ByteArray):(Int×Int)→Option ((Int×Int) ⊕ (Int))
 | (block10,i11) =>
 bif (io.le 0 i11) then (
 Option.bind (
 Option.bind (
 bif (io.lt (io.ar .add .i64 from7 i11) (io.ssz text2)) then (
 Option.bind (idxStr text2 (io.ar .add .i64 from7 i11)) fun b14 =>
 some (io.ar .add .u64 (io.ar .mul .u64 block10 256) (io.wrap .u64 b14))
 ) else (
 some (io.ar .mul .u64 block10 256)
 )
 ) fun block13 =>
 bif (io.eq (io.ar .add .i64 from7 i11) (io.ssz text2)) then (
 some (io.ar .add .u64 block13 1)
 ) else (
 some block13
 )
 ) fun block12 =>
 some (.inl (block12,(io.ar .sub .i64 i11 1)))
 ) else (
 some (.inr block10)
 )
noncomputable def ref02_Chain_l332 (text2:ByteArray):(Int×Int)→Option ((Int×Int) ⊕ (Int))
 | (state6,from7) =>
 bif (io.le from7 (io.ssz text2)) then (
 Option.bind (
 Option.bind (
 whileG (ref02_Chain_l336 from7 text2) (0,7)
 ) fun block9 =>
 Option.bind (ref02_mix_g (io.ar .xor .u64 state6 block9)) fun n15 =>
 some n15
 ) fun state8 =>
 some (.inl (state8,(io.ar .add .i64 from7 8)))
 ) else (
 some (.inr state6)
 )
noncomputable def ref02_Chain_l338 : (Int×ByteArray×Int)→Option ((Int×ByteArray×Int) ⊕ (ByteArray))
 | (state17,s18,i19) =>
 bif (io.lt i19 16) then (
 Option.bind (divG 16) fun _ =>
 Option.bind (divG 16) fun _ =>
 Option.bind (subS (⟨#[48,49,50,51,52,53,54,55,56,57,97,98,99,100,101,102]⟩) (io.rem state17 16) (io.ar .add .u64 (io.rem state17 16) 1)) fun z20 =>
 Option.bind (catG z20 s18) fun _ =>
 Option.bind (divG 16) fun _ =>
 some (.inl ((io.quo .u64 state17 16),(io.cat z20 s18),(io.ar .add .i64 i19 1)))
 ) else (
 some (.inr s18)
 )
noncomputable def ref02_Chain_l282 (n:Int):(ByteArray×Int)→Option ((ByteArray×Int) ⊕ (ByteArray))
 | (text2,i3) =>
 bif (io.lt i3 (io.mm false n 1000)) then (
 Option.bind (
 Option.bind (
 whileG (ref02_Chain_l332 text2) (7046029254386353131,0)
 ) fun state5 =>
 Option.bind (
 whileG (ref02_Chain_l338) (state5,⟨#[]⟩,0)
 ) fun s16 =>
 some s16
 ) fun text4 =>
 some (.inl (text4,(io.ar .add .i64 i3 1)))
 ) else (
 some (.inr text2)
 )
noncomputable def ref02_Chain_g (text:ByteArray)(n:Int):Option (ByteArray) :=
 Option.bind (
 whileG (ref02_Chain_l282 n) (text,0)
 ) fun text1 =>
 some text1
end Go.SX.Rg
namespace Go.SX.Rg
open Go Go.SX Go.Proofs
set_option maxRecDepth 100000
noncomputable def ref30_Formed_l14 (t_:Title)(i3:Int):Int→Option ((Int) ⊕ ((Unit) ⊕ ((Int) ⊕ ((Unit) ⊕ (Bool)))))
 | n8 =>
 bif (io.lt n8 18) then (
 Option.bind (idxG t_.Chain i3) fun x9 =>
 Option.bind (idxG x9.Sig n8) fun x10 =>
 Option.bind (ref02_Is_g x10) fun v11 =>
 bif (io.not v11) then (
 some (.inr (.inr (.inr (.inr false))))
 ) else (
 some (.inl (io.ar .add .i64 n8 1))
 )
 ) else (
 some (.inr (.inl ()))
 )
noncomputable def ref30_Formed_l12 (t_:Title):Int→Option ((Int) ⊕ ((Unit) ⊕ (Bool)))
 | i3 =>
 bif (io.lt i3 (io.len (W eTransfer t_.Chain))) then (
 orR (
 Option.bind (
 Option.bind (idxG t_.Chain i3) fun x5 =>
 Option.bind (ref02_Is_g x5.To) fun v6 =>
 bif (io.not v6) then (
 some true
 ) else (
 Option.bind (idxG t_.Chain i3) fun x7 =>
 some (io.not (io.eq (io.len (W eS x7.Sig)) 18))
 )
 ) fun v4 =>
 bif v4 then (
 some (.inr (.inr (.inr false)))
 ) else (
 whileG (ref30_Formed_l14 t_ i3) 0
 )
 ) fun _ =>
 some (.inl (io.ar .add .i64 i3 1))
 ) else (
 some (.inr (.inl ()))
 )
noncomputable def ref30_Formed_g (t_:Title):Option (Bool) :=
 Option.bind (
 bif (io.lt t_.Show 0) then (
 some true
 ) else (
 bif (io.le 20 t_.Show) then (
 some true
 ) else (
 bif (io.lt (io.ar .sub .i64 t_.Serial (io.ar .mul .i64 (io.ar .add .i64 t_.Show 1) 10000)) 1) then (
 some true
 ) else (
 bif (io.lt 9999 (io.ar .sub .i64 t_.Serial (io.ar .mul .i64 (io.ar .add .i64 t_.Show 1) 10000))) then (
 some true
 ) else (
 bif (io.lt t_.Place (-1)) then (
 some true
 ) else (
 bif (io.le 4000 t_.Place) then (
 some true
 ) else (
 Option.bind (ref02_Is_g t_.First) fun v2 =>
 bif (io.not v2) then (
 some true
 ) else (
 some (io.lt 50 (io.len (W eTransfer t_.Chain)))
 )
 )
 )
 )
 )
 )
 )
 ) fun v1 =>
 bif v1 then (
 some false
 ) else (
 orR (
 whileG (ref30_Formed_l12 t_) 0
 ) fun _ =>
 some true
 )
end Go.SX.Rg
namespace Go.SX.Rg
open Go Go.SX Go.Proofs
set_option maxRecDepth 100000
noncomputable def ref30_Cut_g (t_:Title)(n:Int):Option (Title) :=
 Option.bind (subG t_.Chain 0 n) fun l1 =>
 some (Title.mk t_.Serial t_.Show t_.Place t_.First l1)
end Go.SX.Rg
namespace Go.SX.Rg
open Go Go.SX Go.Proofs
set_option maxRecDepth 100000
noncomputable def ref30_Used_l2 (t_:Title)(key:ByteArray):Int→Option ((Int) ⊕ ((Unit) ⊕ (Bool)))
 | i1 =>
 bif (io.lt i1 (io.len (W eTransfer t_.Chain))) then (
 Option.bind (idxG t_.Chain i1) fun x2 =>
 bif (io.seq x2.To key) then (
 some (.inr (.inr true))
 ) else (
 some (.inl (io.ar .add .i64 i1 1))
 )
 ) else (
 some (.inr (.inl ()))
 )
noncomputable def ref30_Used_g (t_:Title)(key:ByteArray):Option (Bool) :=
 bif (io.seq t_.First key) then (
 some true
 ) else (
 orR (
 whileG (ref30_Used_l2 t_ key) 0
 ) fun _ =>
 some false
 )
end Go.SX.Rg
namespace Go.SX.Rg
open Go Go.SX Go.Proofs
set_option maxRecDepth 100000
noncomputable def ref30_Owner_g (t_:Title):Option (ByteArray) :=
 bif (io.eq (io.len (W eTransfer t_.Chain)) 0) then (
 some t_.First
 ) else (
 Option.bind (idxG t_.Chain (io.ar .sub .i64 (io.len (W eTransfer t_.Chain)) 1)) fun x1 =>
 some x1.To
 )
end Go.SX.Rg
namespace Go.SX.Rg
open Go Go.SX Go.Proofs
set_option maxRecDepth 100000
noncomputable def ref30_decimal_b (rec:Int→Option (ByteArray))(n:Int):Option (ByteArray) :=
 bif (io.lt n 0) then (
 Option.bind (divG 10) fun _ =>
 bif (io.eq (io.quo .i64 n 10) 0) then (
 Option.bind (rec (io.neg .i64 n)) fun v1 =>
 Option.bind (catG (⟨#[45]⟩) v1) fun _ =>
 some (io.cat (⟨#[45]⟩) v1)
 ) else (
 Option.bind (divG 10) fun _ =>
 Option.bind (rec (io.quo .i64 n 10)) fun v2 =>
 Option.bind (divG 10) fun _ =>
 Option.bind (rec (io.neg .i64 (io.rem n 10))) fun v3 =>
 Option.bind (catG v2 v3) fun _ =>
 some (io.cat v2 v3)
 )
 ) else (
 bif (io.lt n 10) then (
 Option.bind (subS (⟨#[48,49,50,51,52,53,54,55,56,57]⟩) n (io.ar .add .i64 n 1)) fun z4 =>
 some z4
 ) else (
 Option.bind (divG 10) fun _ =>
 Option.bind (rec (io.quo .i64 n 10)) fun v5 =>
 Option.bind (divG 10) fun _ =>
 Option.bind (divG 10) fun _ =>
 Option.bind (subS (⟨#[48,49,50,51,52,53,54,55,56,57]⟩) (io.rem n 10) (io.ar .add .i64 (io.rem n 10) 1)) fun z6 =>
 Option.bind (catG v5 z6) fun _ =>
 some (io.cat v5 z6)
 )
 )
noncomputable def ref30_decimal_n : Nat→Int→Option (ByteArray)
 | 0,_=>none
 | n+1,x0=>ref30_decimal_b (ref30_decimal_n n) x0
noncomputable def ref30_decimal_g : Int→Option (ByteArray):=ref30_decimal_n 40
end Go.SX.Rg
namespace Go.SX.Rg
open Go Go.SX Go.Proofs
set_option maxRecDepth 100000
noncomputable def ref30_Fields_l2 (t_:Title):((List ByteArray)×Int)→Option (((List ByteArray)×Int) ⊕ ((List ByteArray)))
 | (out5,i6) =>
 bif (io.lt i6 (io.len (W eTransfer t_.Chain))) then (
 Option.bind (idxG t_.Chain i6) fun x7 =>
 Option.bind (some [x7.To]) fun l8 =>
 Option.bind (appG out5 l8) fun out9 =>
 some (.inl (out9,(io.ar .add .i64 i6 1)))
 ) else (
 some (.inr out5)
 )
noncomputable def ref30_Fields_g (t_:Title)(to:ByteArray):Option ((List ByteArray)) :=
 Option.bind (ref30_decimal_g t_.Serial) fun v1 =>
 Option.bind (ref30_decimal_g t_.Show) fun v2 =>
 Option.bind (some [v1,v2,t_.First]) fun out3 =>
 Option.bind (
 whileG (ref30_Fields_l2 t_) (out3,0)
 ) fun out4 =>
 Option.bind (some [to]) fun l10 =>
 Option.bind (appG out4 l10) fun l11 =>
 some l11
end Go.SX.Rg
namespace Go.SX.Rg
open Go Go.SX Go.Proofs
set_option maxRecDepth 100000
def c100r0 : List GOp:=gS 2 [.mv (ci 0)]
def c100r1 : List GOp:=gS 3 [.mv 0,.bin .geq 3 (.const (.int .u8 97))]
def c100r2 : List GOp:=gS 5 [.mv 0,.bin .sub 5 (.const (.int .u8 97)),.cvi .i64 6,.bin .add 7 (ci 10)]++gS 2 [.mv 8]
def c100r3 : List GOp:=gS 9 [.mv 0,.bin .sub 9 (.const (.int .u8 48)),.cvi .i64 10]++gS 2 [.mv 11]
def c100 : EFn:=⟨12,.seq (.reg c100r0) (.seq (.seq (.reg c100r1) (.cond 4 (.seq (.reg c100r2) (.ret)) (.skip))) (.seq (.reg c100r3) (.ret))),[.tmp 2]⟩
theorem c100_ok : compF Tryz.prog 100=some c100.er:=by kernel_rfl
set_option maxHeartbeats 4000000 in
theorem ref03_hex_R {P:Program}(hP:P=Tryz.prog)(c:Int)(r:Int)(h:ref03_hex_g c=some r):Fn1 P 100 [vIu8 c] (vIi64 r):=by
 refine .walkE (hP▸c100_ok) fun K hK=>?_;unfold ref03_hex_g at h;cbv;refine brkG h ?_ ?_<;>intro h
 ·cbv;obtain rfl:=oj h;exact hK _ _ aw_
 ·cbv;obtain rfl:=oj h;exact hK _ _ aw_
end Go.SX.Rg
namespace Go.SX.Rg
open Go Go.SX Go.Proofs
set_option maxRecDepth 100000
def c63r0 : List GOp:=gS 2 [.mv cn]
def c63r1 : List GOp:=gS 3 [.mv cn]
def c63r2 : List GOp:=gS 4 [.mv (ci 0)]
def c63r3 : List GOp:=gS 5 [.mv (ci 0)]
def c63r4 : List GOp:=gS 7 [.mv 5,.mv 0,.len true 8,.bin .lss 7 9]
def c63r5 : List GOp:=gS 13 [.mv 0,.mv 5,.idxS 13 14,.call 100 [15]]++gS 6 [.mv 16]
def c63r6 : List GOp:=gS 17 [.mv 3,.mv 6,.bslice 3 1 1 oz [(0,18)],.app 3 1 8 oz 17 19]++gS 3 [.mv 20]
def c63r7 : List GOp:=gS 21 [.mv 4,.mv 6,.bin .sub (ci 15) 22,.bin .add 21 23]++gS 4 [.mv 24]
def c63r8 : List GOp:=gS 11 [.mv 5,.bin .add 11 (ci 1)]++gS 5 [.mv 12]
def c63l9 : DE:=.seq (.seq (.reg c63r4) (.cond 10 (.skip) (.exit 0))) (.seq (.block 1 (.seq (.reg c63r5) (.seq (.reg c63r6) (.reg c63r7)))) (.reg c63r8))
def c63r10 : List GOp:=gS 25 [.mv 3,.mv 4,.div .quo 26 (ci 16),.mv 4,.div .rem 28 (ci 16),.bslice 3 1 2 oz [(0,27),(1,29)],.app 3 1 8 oz 25 30]++gS 2 [.mv 31]
def c63 : EFn:=⟨32,.seq (.reg c63r0) (.seq (.reg c63r1) (.seq (.reg c63r2) (.join (.seq (.reg c63r3) (.block 0 (.loop c63l9))) (.seq (.reg c63r10) (.ret))))),[.tmp 2]⟩
theorem c63_ok : compF Tryz.prog 63=some c63.er:=by kernel_rfl
set_option maxHeartbeats 4000000 in
theorem ref03_Digits_R {P:Program}(hP:P=Tryz.prog)(sum:ByteArray)(r:(List Int))(h:ref03_Digits_g sum=some r):Fn1 P 63 [vS sum] (vLIi64 r):=by
 refine .walkE (hP▸c63_ok) fun K hK=>?_;unfold ref03_Digits_g at h;cbv;refine .g h (fun ((out1,rest2):(List Int)×Int)=>rp 3 .top++[.hd 0,oi rest2]++rp 27 .top) (fun (out1,rest2)=>[rB out1]) (fun y hm Kn1 hKn1=>?_) fun t h=>?_
 ·have h:=hm;clear hm;cbv;refine .g h (fun ((out3,rest4,i5):(List Int)×Int×Int)=>[.d (.val (.string sum)),.top,.top,.hd 0,oi rest4,oi i5]++rp 26 .top) (fun (out3,rest4,i5)=>[rB out3]) (.nilr 3 3 1 rfl (.nz (.mtE [0] ?_))) fun s x h hr2 Kn2 hKn2=>?_
  ·exact mx
  unfold ref03_Digits_l2 at h;obtain⟨out3,rest4,i5⟩:=s;cbv;refine brkG h ?_ ?_<;>intro h
  ·cbv;refine .g h fun b6 h=>?_;cbv;refine .g h (fun v hv=>ref03_hex_R hP _ v hv) aw_ rfl (fun _=>rfl) fun d7 h=>?_;cbv;refine .g (e:=eIi64) h (W_cons aw_ (W_nil' _)) fun l8 h=>?_;cbv;refine .g h rfl (fun _=>rfl) (by decide) fun out9 h=>?_;cbv;obtain rfl:=oj h;exact hKn2 _ _ _ rfl (.nz (.mtE [2] mx))
  ·cbv;obtain rfl:=oj h;obtain rfl:=hr2 _ rfl;exact hKn1 _ _ _ rfl (.nz (.mtE [0] mx))
 obtain⟨out1,rest2⟩:=t;cbv;refine .g h fun h=>?_;cbv;refine .g h fun h=>?_;cbv;refine .g (e:=eIi64) h (W_cons aw_ (W_cons aw_ (W_nil' _))) fun l10 h=>?_;cbv;refine .g h rfl (fun _=>rfl) (by decide) fun l11 h=>?_;cbv;obtain rfl:=oj h;exact hK _ _ aw_
end Go.SX.Rg
namespace Go.SX.Rg
open Go Go.SX Go.Proofs
set_option maxRecDepth 100000
def c101r0 : List GOp:=gS 2 [.mv (.const (.int .u64 0))]
def c101r1 : List GOp:=gS 3 [.mv 0,.mv 0,.bin .shr 4 (.const (.int .u64 32)),.bin .xor 3 5]++gS 0 [.mv 6]
def c101r2 : List GOp:=gS 7 [.mv 0,.bin .mul 7 (.const (.int .u64 11400714819323198485))]++gS 0 [.mv 8]
def c101r3 : List GOp:=gS 9 [.mv 0,.mv 0,.bin .shr 10 (.const (.int .u64 29)),.bin .xor 9 11]++gS 0 [.mv 12]
def c101r4 : List GOp:=gS 13 [.mv 0,.bin .mul 13 (.const (.int .u64 13787848793156543929))]++gS 0 [.mv 14]
def c101r5 : List GOp:=gS 15 [.mv 0,.mv 0,.bin .shr 16 (.const (.int .u64 32)),.bin .xor 15 17]++gS 2 [.mv 18]
def c101 : EFn:=⟨19,.seq (.reg c101r0) (.seq (.reg c101r1) (.seq (.reg c101r2) (.seq (.reg c101r3) (.seq (.reg c101r4) (.seq (.reg c101r5) (.ret)))))),[.tmp 2]⟩
theorem c101_ok : compF Tryz.prog 101=some c101.er:=by kernel_rfl
set_option maxHeartbeats 4000000 in
theorem ref02_mix_R {P:Program}(hP:P=Tryz.prog)(x_:Int)(r:Int)(h:ref02_mix_g x_=some r):Fn1 P 101 [vIu64 x_] (vIu64 r):=by
 refine .walkE (hP▸c101_ok) fun K hK=>?_;unfold ref02_mix_g at h;cbv;obtain rfl:=oj h;exact hK _ _ aw_
end Go.SX.Rg
