/- Parts of the proof. -/
import Derived.Test.YtlpempbeenpilaaGreatDoorZRgT
import Derived.Test.YtlpempbeenpilaaGreatDoorZRg46d
import Derived.Test.YtlpempbeenpilaaGreatDoorZSyT
set_option linter.unusedSimpArgs false
set_option linter.unusedVariables false
set_option linter.unusedSectionVars false
namespace Go.SX.Rg
open Go Go.SX Go.Proofs
set_option maxRecDepth 100000
def c53r0 : List GOp:=[
 gv 2 (.box 35 (.tmp 0)),
 gv 3 (.box 35 (.tmp 1)),
 gv 4 (.mv (.const (.bool false)))]
def c53r1 : List GOp:=[
 gv 6 (.fadd 0 (.tmp 2)),
 gv 7 (.load 1 false (.tmp 6)),
 gv 8 (.fadd 0 (.tmp 3)),
 gv 9 (.load 1 false (.tmp 8)),
 gv 10 (.bin .neq (.tmp 7) (.tmp 9)),
 gv 11 (.mv (.tmp 10)),
 gw 12 11 false (.fadd 1 (.tmp 2)),
 gw 13 11 false (.load 1 false (.tmp 12)),
 gw 14 11 false (.fadd 1 (.tmp 3)),
 gw 15 11 false (.load 1 false (.tmp 14)),
 gw 16 11 false (.bin .neq (.tmp 13) (.tmp 15)),
 gv 17 (.pick (.tmp 11) (.const (.bool true)) (.tmp 16)),
 gv 18 (.mv (.tmp 17)),
 gw 19 18 false (.fadd 3 (.tmp 2)),
 gw 20 18 false (.load 1 false (.tmp 19)),
 gw 21 18 false (.fadd 3 (.tmp 3)),
 gw 22 18 false (.load 1 false (.tmp 21)),
 gw 23 18 false (.bin .neq (.tmp 20) (.tmp 22)),
 gv 24 (.pick (.tmp 18) (.const (.bool true)) (.tmp 23)),
 gv 25 (.mv (.tmp 24)),
 gw 26 25 false (.fadd 4 (.tmp 2)),
 gw 27 25 false (.load 1 false (.tmp 26)),
 gw 28 25 false (.len false (.tmp 27)),
 gw 29 25 false (.fadd 4 (.tmp 3)),
 gw 30 25 false (.load 1 false (.tmp 29)),
 gw 31 25 false (.len false (.tmp 30)),
 gw 32 25 false (.bin .lss (.tmp 28) (.tmp 31)),
 gv 33 (.pick (.tmp 25) (.const (.bool true)) (.tmp 32))]
def c53r2 : List GOp:=[
 gv 4 (.mv (.const (.bool false)))]
def c53r3 : List GOp:=[
 gv 5 (.mv (.const (.int .i64 0)))]
def c53r4 : List GOp:=[
 gv 34 (.mv (.tmp 5)),
 gv 35 (.fadd 4 (.tmp 3)),
 gv 36 (.load 1 false (.tmp 35)),
 gv 37 (.len false (.tmp 36)),
 gv 38 (.bin .lss (.tmp 34) (.tmp 37))]
def c53r5 : List GOp:=[
 gv 41 (.fadd 4 (.tmp 2)),
 gv 42 (.load 1 false (.tmp 41)),
 gv 43 (.mv (.tmp 5)),
 gv 44 (.idxA 2 (.tmp 42) (.tmp 43)),
 gv 45 (.fadd 0 (.tmp 44)),
 gv 46 (.load 1 false (.tmp 45)),
 gv 47 (.fadd 4 (.tmp 3)),
 gv 48 (.load 1 false (.tmp 47)),
 gv 49 (.mv (.tmp 5)),
 gv 50 (.idxA 2 (.tmp 48) (.tmp 49)),
 gv 51 (.fadd 0 (.tmp 50)),
 gv 52 (.load 1 false (.tmp 51)),
 gv 53 (.bin .neq (.tmp 46) (.tmp 52)),
 gv 54 (.mv (.tmp 53)),
 gw 55 54 false (.fadd 4 (.tmp 2)),
 gw 56 54 false (.load 1 false (.tmp 55)),
 gw 57 54 false (.mv (.tmp 5)),
 gw 58 54 false (.idxA 2 (.tmp 56) (.tmp 57)),
 gw 59 54 false (.fadd 1 (.tmp 58)),
 gw 60 54 false (.load 1 false (.tmp 59)),
 gw 61 54 false (.fadd 4 (.tmp 3)),
 gw 62 54 false (.load 1 false (.tmp 61)),
 gw 63 54 false (.mv (.tmp 5)),
 gw 64 54 false (.idxA 2 (.tmp 62) (.tmp 63)),
 gw 65 54 false (.fadd 1 (.tmp 64)),
 gw 66 54 false (.load 1 false (.tmp 65)),
 gw 67 54 false (.call 92 [(.tmp 60),(.tmp 66)]),
 gw 68 54 false (.un .not (.tmp 67)),
 gv 69 (.pick (.tmp 54) (.const (.bool true)) (.tmp 68))]
def c53r6 : List GOp:=[
 gv 4 (.mv (.const (.bool false)))]
def c53r7 : List GOp:=[
 gv 39 (.mv (.tmp 5)),
 gv 40 (.bin .add (.tmp 39) (.const (.int .i64 1))),
 gv 5 (.mv (.tmp 40))]
def c53l8 : DE:=.seq (.seq (.reg c53r4) (.cond (.tmp 38) (.skip) (.exit 0))) (.seq (.block 1 (.join (.par false false false true 26 c53r5) (.cond (.tmp 69) (.seq (.reg c53r6) (.ret)) (.skip)))) (.reg c53r7))
def c53r9 : List GOp:=[
 gv 4 (.mv (.const (.bool true)))]
def c53 : EFn:=⟨70,.seq (.reg c53r0) (.seq (.join (.reg c53r1) (.cond (.tmp 33) (.seq (.reg c53r2) (.ret)) (.skip))) (.join (.seq (.reg c53r3) (.block 0 (.loop c53l8))) (.seq (.reg c53r9) (.ret)))),[.tmp 4]⟩
theorem c53_ok : compF Tryz.prog 53=some c53.er:=by kernel_rfl
set_option maxHeartbeats 4000000 in
theorem ref30_Extends_R {P:Program}(hP:P=Tryz.prog)(a:Title)(b:Title)(r:Bool)(h:ref30_Extends_g a b=some r):Fn1 P 53 [vTitle a,vTitle b] (vB r):=by
 refine .walkE (hP▸c53_ok) fun K hK=>?_;unfold ref30_Extends_g at h;cbv;refine .g h (fun (v1:Bool)=>[.top,.top,.ptr 0 0,.ptr 1 0]++rp 29 .top++[ob v1]++rp 36 .top) (fun v1=>[.cells [oi a.Serial,oi a.Show,oi a.Place,.d (.val (.string a.First)),.d (.sl (W eTransfer a.Chain))] 35,.cells [oi b.Serial,oi b.Show,oi b.Place,.d (.val (.string b.First)),.d (.sl (W eTransfer b.Chain))] 35]) (fun y hm Kn1 hKn1=>?_) fun t h=>?_
 ·have h:=hm;clear hm;cbv;refine brkG h ?_ ?_<;>intro h
  ·cbv;obtain rfl:=oj h;refine hKn1 _ _ _ rfl (.nz (.mtE [0,1] ?_));(cbv;repeat (refine⟨an_,?_⟩;cbv))
  ·cbv;refine brkG h ?_ ?_<;>intro h
   ·cbv;obtain rfl:=oj h;refine hKn1 _ _ _ rfl (.nz (.mtE [0,1] ?_));(cbv;repeat (refine⟨an_,?_⟩;cbv))
   ·cbv;refine brkG h ?_ ?_<;>intro h
    ·cbv;obtain rfl:=oj h;refine hKn1 _ _ _ rfl (.nz (.mtE [0,1] ?_));(cbv;repeat (refine⟨an_,?_⟩;cbv))
    ·cbv;obtain rfl:=oj h;refine hKn1 _ _ _ rfl (.nz (.mtE [0,1] ?_));(cbv;repeat (refine⟨an_,?_⟩;cbv))
 obtain⟨v1,rfl⟩:=ez t;cbv;refine brkG h ?_ ?_<;>intro h
 ·cbv;obtain rfl:=oj h;exact hK _ _ aw_
 ·cbv;refine .ga h (fun (_:Unit)=>rp 70 .top) (fun _=>[]) (fun y hm hr1 Kn1 hKn1=>?_) fun t h=>?_
  ·have h:=hm;clear hm;cbv;refine .g h (fun (i2:Int)=>[.top,.top,.ptr 0 0,.ptr 1 0,.top,oi i2]++rp 64 .top) (fun i2=>[.cells [oi a.Serial,oi a.Show,oi a.Place,.d (.val (.string a.First)),.d (.sl (W eTransfer a.Chain))] 35,.cells [oi b.Serial,oi b.Show,oi b.Place,.d (.val (.string b.First)),.d (.sl (W eTransfer b.Chain))] 35]) (.nz (.mtE [0,1] ?_)) fun s x h hr2 Kn2 hKn2=>?_
   ·(cbv;repeat (refine⟨an_,?_⟩;cbv))
   unfold ref30_Extends_l2 at h;obtain⟨i2,rfl⟩:=ez s;cbv;refine brkG h ?_ ?_<;>intro h
   ·cbv;refine .g h (fun (v3:Bool)=>[.top,.top,.ptr 0 0,.ptr 1 0,.top,oi i2]++rp 63 .top++[ob v3]) (fun v3=>[.cells [oi a.Serial,oi a.Show,oi a.Place,.d (.val (.string a.First)),.d (.sl (W eTransfer a.Chain))] 35,.cells [oi b.Serial,oi b.Show,oi b.Place,.d (.val (.string b.First)),.d (.sl (W eTransfer b.Chain))] 35]) (fun y hm Kn3 hKn3=>?_) fun t h=>?_
    ·have h:=hm;clear hm;cbv;refine .g h (fun _=>rfl) fun x4 h=>?_;cbv;refine .g h (fun _=>rfl) fun x5 h=>?_;cbv;refine brkG h ?_ ?_<;>intro h
     ·cbv;obtain rfl:=oj h;refine hKn3 _ _ _ rfl (.nz (.mtE [0,1] ?_));(cbv;repeat (refine⟨an_,?_⟩;cbv))
     ·cbv;refine .g h (fun _=>rfl) fun x6 h=>?_;cbv;refine .g h (fun _=>rfl) fun x7 h=>?_;cbv;refine .g h (fun v hv=>ref03_Same_R hP _ _ v hv) aw_ rfl (fun _=>rfl) fun v8 h=>?_;cbv;obtain rfl:=oj h;refine hKn3 _ _ _ rfl (.nz (.mtE [0,1] ?_));(cbv;repeat (refine⟨an_,?_⟩;cbv))
    obtain⟨v3,rfl⟩:=ez t;cbv;refine brkG h ?_ ?_<;>intro h
    ·cbv;obtain rfl:=oj h;obtain rfl:=hr2 _ rfl;obtain rfl:=hr1 _ rfl;exact hK _ _ aw_
    ·cbv;obtain rfl:=oj h;refine hKn2 _ _ _ rfl (.nz (.mtE [0,1] ?_));(cbv;repeat (refine⟨an_,?_⟩;cbv))
   ·cbv;obtain rfl:=oj h;obtain rfl:=hr2 _ rfl;refine hKn1 _ _ _ rfl (.nz (.mtE [] ?_));(cbv;repeat (refine⟨an_,?_⟩;cbv))
  cbv;obtain rfl:=oj h;exact hK _ _ aw_
end Go.SX.Rg
namespace Go.SX.Rg
open Go Go.SX Go.Proofs
set_option maxRecDepth 100000
def c28r0 : List GOp:=[
 gv 2 (.box 35 (.tmp 0)),
 gv 3 (.box 35 (.tmp 1)),
 gv 4 (.mv (.const (.bool false)))]
def c28r1 : List GOp:=[
 gv 5 (.load 5 true (.tmp 2)),
 gv 6 (.load 5 true (.tmp 3)),
 gv 7 (.call 53 [(.tmp 5),(.tmp 6)]),
 gv 8 (.mv (.tmp 7)),
 gw 9 8 true (.load 5 true (.tmp 3)),
 gw 10 8 true (.load 5 true (.tmp 2)),
 gw 11 8 true (.call 53 [(.tmp 9),(.tmp 10)]),
 gv 12 (.pick (.tmp 8) (.tmp 11) (.const (.bool false))),
 gv 13 (.mv (.tmp 12)),
 gw 14 13 true (.fadd 2 (.tmp 2)),
 gw 15 13 true (.load 1 false (.tmp 14)),
 gw 16 13 true (.fadd 2 (.tmp 3)),
 gw 17 13 true (.load 1 false (.tmp 16)),
 gw 18 13 true (.bin .eql (.tmp 15) (.tmp 17)),
 gv 19 (.pick (.tmp 13) (.tmp 18) (.const (.bool false))),
 gv 4 (.mv (.tmp 19))]
def c28 : EFn:=⟨20,.seq (.reg c28r0) (.seq (.reg c28r1) (.ret)),[.tmp 4]⟩
theorem c28_ok : compF Tryz.prog 28=some c28.er:=by kernel_rfl
set_option maxHeartbeats 4000000 in
theorem ref30_Same_R {P:Program}(hP:P=Tryz.prog)(a:Title)(b:Title)(r:Bool)(h:ref30_Same_g a b=some r):Fn1 P 28 [vTitle a,vTitle b] (vB r):=by
 refine .walkE (hP▸c28_ok) fun K hK=>?_;unfold ref30_Same_g at h;cbv;refine .g h (fun v hv=>ref30_Extends_R hP _ _ v hv) aw_ rfl (fun _=>rfl) fun v1 h=>?_;cbv;refine brkG h ?_ ?_<;>intro h
 ·cbv;refine .g h (fun v hv=>ref30_Extends_R hP _ _ v hv) aw_ rfl (fun _=>rfl) fun v2 h=>?_;cbv;refine brkG h ?_ ?_<;>intro h
  ·cbv;obtain rfl:=oj h;exact hK _ _ aw_
  ·cbv;obtain rfl:=oj h;exact hK _ _ aw_
 ·cbv;obtain rfl:=oj h;exact hK _ _ aw_
end Go.SX.Rg
namespace Go.SX.Rg
open Go Go.SX Go.Proofs
set_option maxRecDepth 100000
noncomputable def title_Extends_c1_l2 (x_:Transfer)(y_:Transfer):Int→Option ((Int) ⊕ ((Unit) ⊕ (Bool)))
 | v1 =>
 bif (io.lt v1 (io.len (W eS x_.Sig))) then (
 Option.bind (idxG x_.Sig v1) fun x2 =>
 Option.bind (idxG y_.Sig v1) fun x3 =>
 bif (io.not (io.seq x2 x3)) then (
 some (.inr (.inr false))
 ) else (
 some (.inl (io.ar .add .i64 v1 1))
 )
 ) else (
 some (.inr (.inl ()))
 )
noncomputable def title_Extends_c1_g (x_:Transfer)(y_:Transfer):Option (Bool) :=
 bif (io.seq x_.To y_.To) then (
 bif (io.not (io.eq (io.len (W eS x_.Sig)) (io.len (W eS y_.Sig)))) then (
 some false
 ) else (
 orR (
 whileG (title_Extends_c1_l2 x_ y_) 0
 ) fun _ =>
 some true
 )
 ) else (
 some false
 )
end Go.SX.Rg
namespace Go.SX.Rg
open Go Go.SX Go.Proofs
set_option maxRecDepth 100000
def c78r0 : List GOp:=[
 gv 4 (.mv (.const (.bool false)))]
def c78r1 : List GOp:=[
 gv 6 (.mv (.tmp 0)),
 gv 7 (.len false (.tmp 6)),
 gv 8 (.mv (.tmp 1)),
 gv 9 (.len false (.tmp 8)),
 gv 10 (.bin .neq (.tmp 7) (.tmp 9))]
def c78r2 : List GOp:=[
 gv 4 (.mv (.const (.bool false)))]
def c78r3 : List GOp:=[
 gv 11 (.mv (.tmp 0)),
 gv 12 (.len false (.tmp 11)),
 gv 13 (.mv (.const (.int .i64 0)))]
def c78r4 : List GOp:=[
 gv 14 (.bin .lss (.tmp 13) (.tmp 12))]
def c78r5 : List GOp:=[
 gv 15 (.mv (.tmp 13)),
 gv 5 (.mv (.tmp 15))]
def c78r6 : List GOp:=[
 gv 16 (.mv (.tmp 0)),
 gv 17 (.mv (.tmp 5)),
 gv 18 (.idxA 1 (.tmp 16) (.tmp 17)),
 gv 19 (.load 1 false (.tmp 18)),
 gv 20 (.mv (.tmp 1)),
 gv 21 (.mv (.tmp 5)),
 gv 22 (.idxA 1 (.tmp 20) (.tmp 21)),
 gv 23 (.load 1 false (.tmp 22)),
 gv 24 (.bin .neq (.tmp 19) (.tmp 23))]
def c78r7 : List GOp:=[
 gv 4 (.mv (.const (.bool false)))]
def c78r8 : List GOp:=[
 gv 25 (.bin .add (.tmp 13) (.const (.int .i64 1))),
 gv 13 (.mv (.tmp 25))]
def c78l9 : DE:=.seq (.reg c78r4) (.seq (.cond (.tmp 14) (.skip) (.exit 0)) (.seq (.block 1 (.seq (.reg c78r5) (.seq (.par true true true true 8 c78r6) (.cond (.tmp 24) (.seq (.reg c78r7) (.ret)) (.skip))))) (.reg c78r8)))
def c78r10 : List GOp:=[
 gv 4 (.mv (.const (.bool true)))]
def c78 : EFn:=⟨26,.seq (.reg c78r0) (.seq (.seq (.reg c78r1) (.cond (.tmp 10) (.seq (.reg c78r2) (.ret)) (.skip))) (.join (.seq (.reg c78r3) (.block 0 (.loop c78l9))) (.seq (.reg c78r10) (.ret)))),[.tmp 4]⟩
theorem c78_ok : compF Tryz.prog 78=some c78.er:=by kernel_rfl
def c77r0 : List GOp:=[
 gv 2 (.box 46 (.tmp 0)),
 gv 3 (.box 46 (.tmp 1)),
 gv 4 (.mv (.const (.bool false)))]
def c77r1 : List GOp:=[
 gv 5 (.fadd 0 (.tmp 2)),
 gv 6 (.load 1 false (.tmp 5)),
 gv 7 (.fadd 0 (.tmp 3)),
 gv 8 (.load 1 false (.tmp 7)),
 gv 9 (.bin .eql (.tmp 6) (.tmp 8)),
 gv 10 (.mv (.tmp 9)),
 gw 11 10 true (.fadd 1 (.tmp 2)),
 gw 12 10 true (.load 1 false (.tmp 11)),
 gw 13 10 true (.fadd 1 (.tmp 3)),
 gw 14 10 true (.load 1 false (.tmp 13)),
 gw 15 10 true (.call 78 [(.tmp 12),(.tmp 14)]),
 gv 16 (.pick (.tmp 10) (.tmp 15) (.const (.bool false))),
 gv 4 (.mv (.tmp 16))]
def c77 : EFn:=⟨17,.seq (.reg c77r0) (.seq (.reg c77r1) (.ret)),[.tmp 4]⟩
theorem c77_ok : compF Tryz.prog 77=some c77.er:=by kernel_rfl
set_option maxHeartbeats 4000000 in
theorem title_Extends_c1_R {P:Program}(hP:P=Tryz.prog)(x_:Transfer)(y_:Transfer)(r:Bool)(h:title_Extends_c1_g x_ y_=some r):Fn1 P 77 [vTransfer x_,vTransfer y_] (vB r):=by
 refine .walkE (hP▸c77_ok) fun K hK=>?_;unfold title_Extends_c1_g at h;cbv;refine brkG h ?_ ?_<;>intro h
 ·cbv;refine .inl (hP▸c78_ok) ?_;cbv;refine brkG h ?_ ?_<;>intro h
  ·cbv;obtain rfl:=oj h;exact hK _ _ aw_
  ·cbv;refine .ga h (fun (_:Unit)=>rp 26 .top) (fun _=>[.cells [.d (.val (.string x_.To)),.d (.sl (W eS x_.Sig))] 46,.cells [.d (.val (.string y_.To)),.d (.sl (W eS y_.Sig))] 46]) (fun y hm hr1 Kn1 hKn1=>?_) fun t h=>?_
   ·have h:=hm;clear hm;cbv;refine .g h (fun (v1:Int)=>[.d (.sl (W eS x_.Sig)),.d (.sl (W eS y_.Sig))]++rp 10 .top++[oi (io.len (W eS x_.Sig)),oi v1]++rp 12 .top) (fun v1=>[.cells [.d (.val (.string x_.To)),.d (.sl (W eS x_.Sig))] 46,.cells [.d (.val (.string y_.To)),.d (.sl (W eS y_.Sig))] 46]) (.nz (.mtE [0,1] ?_)) fun s x h hr2 Kn2 hKn2=>?_
    ·(cbv;repeat (refine⟨an_,?_⟩;cbv))
    unfold title_Extends_c1_l2 at h;obtain⟨v1,rfl⟩:=ez s;cbv;refine brkG h ?_ ?_<;>intro h
    ·cbv;refine .g h (fun _=>rfl) fun x2 h=>?_;cbv;refine .g h (fun _=>rfl) fun x3 h=>?_;cbv;refine brkG h ?_ ?_<;>intro h
     ·cbv;obtain rfl:=oj h;obtain rfl:=hr2 _ rfl;obtain rfl:=hr1 _ rfl;exact hK _ _ aw_
     ·cbv;obtain rfl:=oj h;refine hKn2 _ _ _ rfl (.nz (.mtE [0,1] ?_));(cbv;repeat (refine⟨an_,?_⟩;cbv))
    ·cbv;obtain rfl:=oj h;obtain rfl:=hr2 _ rfl;refine hKn1 _ _ _ rfl (.nz (.mtE [0,1] ?_));(cbv;repeat (refine⟨an_,?_⟩;cbv))
   cbv;obtain rfl:=oj h;exact hK _ _ aw_
 ·cbv;obtain rfl:=oj h;exact hK _ _ aw_
end Go.SX.Rg
namespace Go.SX.Rg
open Go Go.SX Go.Proofs
set_option maxRecDepth 100000
noncomputable def ref11_Ints_l2 (a:(List Int))(b:(List Int)):Int→Option ((Int) ⊕ ((Unit) ⊕ (Bool)))
 | i1 =>
 bif (io.lt i1 (io.len (W eIi64 a))) then (
 Option.bind (idxG a i1) fun x2 =>
 Option.bind (idxG b i1) fun x3 =>
 bif (io.not (io.eq x2 x3)) then (
 some (.inr (.inr false))
 ) else (
 some (.inl (io.ar .add .i64 i1 1))
 )
 ) else (
 some (.inr (.inl ()))
 )
noncomputable def ref11_Ints_g (a:(List Int))(b:(List Int)):Option (Bool) :=
 bif (io.not (io.eq (io.len (W eIi64 a)) (io.len (W eIi64 b)))) then (
 some false
 ) else (
 orR (
 whileG (ref11_Ints_l2 a b) 0
 ) fun _ =>
 some true
 )
end Go.SX.Rg
namespace Go.SX.Rg
open Go Go.SX Go.Proofs
set_option maxRecDepth 100000
noncomputable def registry_Registry_At_b (show0:Int)(places0:Int)(titles0:(List (Int×Entry)))(at0:(List (Int×Int)))(place:Int):Option (Int) :=
 Option.bind (some (mlookD at0 place 0)) fun y1 =>
 some y1
end Go.SX.Rg
namespace Go.SX.Rg
open Go Go.SX Go.Proofs
set_option maxRecDepth 100000
def c22r0 : List GOp:=[
 gv 4 (.mv (.const (.bool false)))]
def c22r1 : List GOp:=[
 gv 6 (.mv (.tmp 0)),
 gv 7 (.len false (.tmp 6)),
 gv 8 (.mv (.tmp 1)),
 gv 9 (.len false (.tmp 8)),
 gv 10 (.bin .neq (.tmp 7) (.tmp 9))]
def c22r2 : List GOp:=[
 gv 4 (.mv (.const (.bool false)))]
def c22r3 : List GOp:=[
 gv 5 (.mv (.const (.int .i64 0)))]
def c22r4 : List GOp:=[
 gv 11 (.mv (.tmp 5)),
 gv 12 (.mv (.tmp 0)),
 gv 13 (.len false (.tmp 12)),
 gv 14 (.bin .lss (.tmp 11) (.tmp 13))]
def c22r5 : List GOp:=[
 gv 17 (.mv (.tmp 0)),
 gv 18 (.mv (.tmp 5)),
 gv 19 (.idxA 1 (.tmp 17) (.tmp 18)),
 gv 20 (.load 1 false (.tmp 19)),
 gv 21 (.mv (.tmp 1)),
 gv 22 (.mv (.tmp 5)),
 gv 23 (.idxA 1 (.tmp 21) (.tmp 22)),
 gv 24 (.load 1 false (.tmp 23)),
 gv 25 (.bin .neq (.tmp 20) (.tmp 24))]
def c22r6 : List GOp:=[
 gv 4 (.mv (.const (.bool false)))]
def c22r7 : List GOp:=[
 gv 15 (.mv (.tmp 5)),
 gv 16 (.bin .add (.tmp 15) (.const (.int .i64 1))),
 gv 5 (.mv (.tmp 16))]
def c22l8 : DE:=.seq (.seq (.reg c22r4) (.cond (.tmp 14) (.skip) (.exit 0))) (.seq (.block 1 (.seq (.par true true true true 8 c22r5) (.cond (.tmp 25) (.seq (.reg c22r6) (.ret)) (.skip)))) (.reg c22r7))
def c22r9 : List GOp:=[
 gv 4 (.mv (.const (.bool true)))]
def c22 : EFn:=⟨26,.seq (.reg c22r0) (.seq (.seq (.reg c22r1) (.cond (.tmp 10) (.seq (.reg c22r2) (.ret)) (.skip))) (.join (.seq (.reg c22r3) (.block 0 (.loop c22l8))) (.seq (.reg c22r9) (.ret)))),[.tmp 4]⟩
theorem c22_ok : compF Tryz.prog 22=some c22.er:=by kernel_rfl
set_option maxHeartbeats 4000000 in
theorem ref11_Ints_R {P:Program}(hP:P=Tryz.prog)(a:(List Int))(b:(List Int))(r:Bool)(h:ref11_Ints_g a b=some r):Fn1 P 22 [vLIi64 a,vLIi64 b] (vB r):=by
 refine .walkE (hP▸c22_ok) fun K hK=>?_;unfold ref11_Ints_g at h;cbv;refine brkG h ?_ ?_<;>intro h
 ·cbv;obtain rfl:=oj h;exact hK _ _ aw_
 ·cbv;refine .ga h (fun (_:Unit)=>rp 26 .top) (fun _=>[]) (fun y hm hr1 Kn1 hKn1=>?_) fun t h=>?_
  ·have h:=hm;clear hm;cbv;refine .g h (fun (i1:Int)=>[.d (.sl (W eIi64 a)),.d (.sl (W eIi64 b))]++rp 3 .top++[oi i1]++rp 20 .top) (fun i1=>[]) (.nz (.mtE [] ?_)) fun s x h hr2 Kn2 hKn2=>?_
   ·(cbv;repeat (refine⟨an_,?_⟩;cbv))
   unfold ref11_Ints_l2 at h;obtain⟨i1,rfl⟩:=ez s;cbv;refine brkG h ?_ ?_<;>intro h
   ·cbv;refine .g h (fun _=>rfl) fun x2 h=>?_;cbv;refine .g h (fun _=>rfl) fun x3 h=>?_;cbv;refine brkG h ?_ ?_<;>intro h
    ·cbv;obtain rfl:=oj h;obtain rfl:=hr2 _ rfl;obtain rfl:=hr1 _ rfl;exact hK _ _ aw_
    ·cbv;obtain rfl:=oj h;refine hKn2 _ _ _ rfl (.nz (.mtE [] ?_));(cbv;repeat (refine⟨an_,?_⟩;cbv))
   ·cbv;obtain rfl:=oj h;obtain rfl:=hr2 _ rfl;refine hKn1 _ _ _ rfl (.nz (.mtE [] ?_));(cbv;repeat (refine⟨an_,?_⟩;cbv))
  cbv;obtain rfl:=oj h;exact hK _ _ aw_
end Go.SX.Rg
namespace Go.SX.Rg
open Go Go.SX Go.Proofs
set_option maxRecDepth 100000
def c25r0 : List GOp:=[
 gv 4 (.mv (.const (.int .i64 0)))]
def c25r1 : List GOp:=[
 gv 5 (.mv (.tmp 0)),
 gv 6 (.pnil false (.tmp 5))]
def c25r2 : List GOp:=[
 gv 4 (.mv (.const (.int .i64 0)))]
def c25r3 : List GOp:=[
 gv 7 (.mv (.tmp 0)),
 gv 8 (.nilck (.tmp 7)),
 gv 9 (.fadd 3 (.tmp 8)),
 gv 10 (.load 1 false (.tmp 9)),
 gv 11 (.mv (.tmp 1)),
 gv 12 (.mget (.int .i64) false false oz (.tmp 10) (.tmp 11)),
 gv 4 (.mv (.tmp 12))]
def c25 : EFn:=⟨13,.seq (.reg c25r0) (.seq (.seq (.reg c25r1) (.cond (.tmp 6) (.seq (.reg c25r2) (.ret)) (.skip))) (.seq (.reg c25r3) (.ret))),[.tmp 4]⟩
theorem c25_ok : compF Tryz.prog 25=some c25.er:=by kernel_rfl
set_option maxHeartbeats 8000000 in
theorem registry_Registry_At_R {P:Program}(hP:P=Tryz.prog)(show0:Int)(places0:Int)(titles0:(List (Int×Entry)))(at0:(List (Int×Int)))(place:Int)(r:Int)(h:registry_Registry_At_b show0 places0 titles0 at0 place=some r):SCall P 25 [.cells [oi show0,oi places0,.hd 1,.hd 2] 74,.mp (.int .i64) true (WM (Value.int .i64) eEntry titles0),.mp (.int .i64) false (WM (Value.int .i64) eIi64 at0)] [.ptr 0 0,oi place] (fun sv own'=>sv=oi r∧own'=[.cells [oi show0,oi places0,.hd 1,.hd 2] 74,.mp (.int .i64) true (WM (Value.int .i64) eEntry titles0),.mp (.int .i64) false (WM (Value.int .i64) eIi64 at0)]):=by
 refine .walkF 3 rfl (Nat.le_of_ble_eq_true rfl) (hP▸c25_ok) fun K hK=>?_;unfold registry_Registry_At_b at h;cbv;refine .gi (e:=eIi64) h (by first | rfl | exact WM_nil' _ _) (fun h=>h) fun y1 h=>?_;cbv;obtain rfl:=oj h;refine hK _ _ [] [0,1,2] ?_;(cbv;repeat (refine⟨an_,?_⟩;cbv))
end Go.SX.Rg
namespace Go.SX.Rg
open Go Go.SX Go.Proofs
set_option maxRecDepth 100000
end Go.SX.Rg
namespace Go.SX.Rg
open Go Go.SX Go.Proofs
set_option maxRecDepth 100000
end Go.SX.Rg
namespace Go.SX.Rg
open Go Go.SX Go.Proofs
set_option maxRecDepth 100000
end Go.SX.Rg
namespace Go.SX.Rg
open Go Go.SX Go.Proofs
set_option maxRecDepth 100000
end Go.SX.Rg
namespace Go.SX.Rg
open Go Go.SX Go.Proofs
set_option maxRecDepth 100000
end Go.SX.Rg
namespace Go.SX.Rg
open Go Go.SX Go.Proofs
set_option maxRecDepth 100000
end Go.SX.Rg
namespace Go.SX.Rg
open Go Go.SX Go.Proofs
set_option maxRecDepth 100000
end Go.SX.Rg
namespace Go.SX.Rg
open Go Go.SX Go.Proofs
set_option maxRecDepth 100000
end Go.SX.Rg
namespace Go.SX.Rg
open Go Go.SX Go.Proofs
set_option maxRecDepth 100000
end Go.SX.Rg
namespace Go.SX.Rg
open Go Go.SX Go.Proofs
set_option maxRecDepth 100000
end Go.SX.Rg
namespace Go.SX.Rg
open Go Go.SX Go.Proofs
set_option maxRecDepth 100000
end Go.SX.Rg
namespace Go.SX.Rg
open Go Go.SX Go.Proofs
set_option maxRecDepth 100000
end Go.SX.Rg
namespace Go.SX.Rg
open Go Go.SX Go.Proofs
set_option maxRecDepth 100000
end Go.SX.Rg
namespace Go.SX.Rg
open Go Go.SX Go.Proofs
set_option maxRecDepth 100000
end Go.SX.Rg
namespace Go.SX.Rg
open Go Go.SX Go.Proofs
set_option maxRecDepth 100000
end Go.SX.Rg
namespace Go.SX.Rg
open Go Go.SX Go.Proofs
set_option maxRecDepth 100000
end Go.SX.Rg
namespace Go.SX.Rg
open Go Go.SX Go.Proofs
set_option maxRecDepth 100000
end Go.SX.Rg
namespace Go.SX.Rg
open Go Go.SX Go.Proofs
set_option maxRecDepth 100000
end Go.SX.Rg
namespace Go.SX.Rg
open Go Go.SX Go.Proofs
set_option maxRecDepth 100000
end Go.SX.Rg
namespace Go.SX.Rg
open Go Go.SX Go.Proofs
set_option maxRecDepth 100000
end Go.SX.Rg
namespace Go.SX.Rg
open Go Go.SX Go.Proofs
set_option maxRecDepth 100000
end Go.SX.Rg
namespace Go.SX.Rg
open Go Go.SX Go.Proofs
set_option maxRecDepth 100000
end Go.SX.Rg
namespace Go.SX
open Go
variable [Tabs]{α ρ:Type}
def appH (xs ys:List α):Option (List α):=if xs.length+ys.length≤2199023255552 then some (xs++ys) else none
variable {e:α→List D}{r:ρ}
theorem AppE.gH {xs ys:List α}{d:List (List D)}{sz bytes:Nat}{k:List α→Option ρ}{K:List (List D)→Prop}(h:(appH xs ys).bind k=some r)(hd:d=W e ys)(hsz:∀ x,(e x).length=sz)(hb:bytes≤64)(hk:∀ zs,k zs=some r→K (W e zs)) :
  AppE (W e xs) d sz bytes K:=by
 unfold appH at h
 split at h
 ·rename_i h0
  subst hd
  refine⟨fun ds hd=>?_,?_,?_,?_⟩
  ·rw[W_eq] at hd;obtain⟨x,_,rfl⟩:=List.mem_map.1 hd;exact hsz x
  ·rw[W_len,W_len]
   exact Nat.le_trans (Nat.mul_le_mul h0 hb) (by decide)
  ·rw[W_len,W_len,maxLen];omega
  ·have:W e xs++W e ys=W e (xs++ys):=by rw[W_eq,W_eq,W_eq,List.map_append]
   rw[this];exact hk _ h
 ·cases h
end Go.SX
