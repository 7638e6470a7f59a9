/- Parts of the proof. -/
import Derived.Test.YtlpempbeenpilaaGreatDoorZRgT
import Derived.Test.YtlpempbeenpilaaGreatDoorZRg46d
import Derived.Test.YtlpempbeenpilaaGreatDoorZSyT
set_option linter.unusedSimpArgs false
set_option linter.unusedVariables false
set_option linter.unusedSectionVars false
namespace Go.SX.Rg
open Go Go.SX Go.Proofs
set_option maxRecDepth 100000
noncomputable def ref03_Same_l2 (a:(List ByteArray))(b:(List ByteArray)):Int→Option ((Int) ⊕ ((Unit) ⊕ (Bool)))
 | i1 =>
 bif (io.lt i1 (io.len (W eS a))) then (
 Option.bind (idxG a i1) fun x2 =>
 Option.bind (idxG b i1) fun x3 =>
 bif (io.not (io.seq x2 x3)) then (
 some (.inr (.inr false))
 ) else (
 some (.inl (io.ar .add .i64 i1 1))
 )
 ) else (
 some (.inr (.inl ()))
 )
noncomputable def ref03_Same_g (a:(List ByteArray))(b:(List ByteArray)):Option (Bool) :=
 bif (io.not (io.eq (io.len (W eS a)) (io.len (W eS b)))) then (
 some false
 ) else (
 orR (
 whileG (ref03_Same_l2 a b) 0
 ) fun _ =>
 some true
 )
end Go.SX.Rg
namespace Go.SX.Rg
open Go Go.SX Go.Proofs
set_option maxRecDepth 100000
noncomputable def ref30_Extends_l2 (b:Title)(a:Title):Int→Option ((Int) ⊕ ((Unit) ⊕ (Bool)))
 | i2 =>
 bif (io.lt i2 (io.len (W eTransfer b.Chain))) then (
 Option.bind (
 Option.bind (idxG a.Chain i2) fun x4 =>
 Option.bind (idxG b.Chain i2) fun x5 =>
 bif (io.not (io.seq x4.To x5.To)) then (
 some true
 ) else (
 Option.bind (idxG a.Chain i2) fun x6 =>
 Option.bind (idxG b.Chain i2) fun x7 =>
 Option.bind (ref03_Same_g x6.Sig x7.Sig) fun v8 =>
 some (io.not v8)
 )
 ) fun v3 =>
 bif v3 then (
 some (.inr (.inr false))
 ) else (
 some (.inl (io.ar .add .i64 i2 1))
 )
 ) else (
 some (.inr (.inl ()))
 )
noncomputable def ref30_Extends_g (a:Title)(b:Title):Option (Bool) :=
 Option.bind (
 bif (io.not (io.eq a.Serial b.Serial)) then (
 some true
 ) else (
 bif (io.not (io.eq a.Show b.Show)) then (
 some true
 ) else (
 bif (io.not (io.seq a.First b.First)) then (
 some true
 ) else (
 some (io.lt (io.len (W eTransfer a.Chain)) (io.len (W eTransfer b.Chain)))
 )
 )
 )
 ) fun v1 =>
 bif v1 then (
 some false
 ) else (
 orR (
 whileG (ref30_Extends_l2 b a) 0
 ) fun _ =>
 some true
 )
end Go.SX.Rg
namespace Go.SX.Rg
open Go Go.SX Go.Proofs
set_option maxRecDepth 100000
noncomputable def ref30_Same_g (a:Title)(b:Title):Option (Bool) :=
 Option.bind (ref30_Extends_g a b) fun v1 =>
 bif v1 then (
 Option.bind (ref30_Extends_g b a) fun v2 =>
 bif v2 then (
 some (io.eq a.Place b.Place)
 ) else (
 some false
 )
 ) else (
 some false
 )
end Go.SX.Rg
namespace Go.SX.Rg
open Go Go.SX Go.Proofs
set_option maxRecDepth 100000
end Go.SX.Rg
namespace Go.SX.Rg
open Go Go.SX Go.Proofs
set_option maxRecDepth 100000
end Go.SX.Rg
namespace Go.SX.Rg
open Go Go.SX Go.Proofs
set_option maxRecDepth 100000
end Go.SX.Rg
namespace Go.SX.Rg
open Go Go.SX Go.Proofs
set_option maxRecDepth 100000
end Go.SX.Rg
namespace Go.SX.Rg
open Go Go.SX Go.Proofs
set_option maxRecDepth 100000
end Go.SX.Rg
namespace Go.SX.Rg
open Go Go.SX Go.Proofs
set_option maxRecDepth 100000
end Go.SX.Rg
namespace Go.SX.Rg
open Go Go.SX Go.Proofs
set_option maxRecDepth 100000
end Go.SX.Rg
namespace Go.SX.Rg
open Go Go.SX Go.Proofs
set_option maxRecDepth 100000
end Go.SX.Rg
namespace Go.SX.Rg
open Go Go.SX Go.Proofs
set_option maxRecDepth 100000
end Go.SX.Rg
namespace Go.SX
open Go
variable [Tabs]{α ρ:Type}
def appH (xs ys:List α):Option (List α):=if xs.length+ys.length≤2199023255552 then some (xs++ys) else none
theorem appH_some {xs ys:List α}(h:xs.length+ys.length≤2199023255552):appH xs ys=some (xs++ys):=by
 unfold appH;rw[if_pos h]
variable {e:α→List D}{r:ρ}
theorem AppE.gH {xs ys:List α}{d:List (List D)}{sz bytes:Nat}{k:List α→Option ρ}{K:List (List D)→Prop}(h:(appH xs ys).bind k=some r)(hd:d=W e ys)(hsz:∀ x,(e x).length=sz)(hb:bytes≤64)(hk:∀ zs,k zs=some r→K (W e zs)) :
  AppE (W e xs) d sz bytes K:=by
 unfold appH at h
 split at h
 ·rename_i h0
  subst hd
  refine⟨fun ds hd=>?_,?_,?_,?_⟩
  ·rw[W_eq] at hd;obtain⟨x,_,rfl⟩:=List.mem_map.1 hd;exact hsz x
  ·rw[W_len,W_len]
   exact Nat.le_trans (Nat.mul_le_mul h0 hb) (by decide)
  ·rw[W_len,W_len,maxLen];omega
  ·have:W e xs++W e ys=W e (xs++ys):=by rw[W_eq,W_eq,W_eq,List.map_append]
   rw[this];exact hk _ h
 ·cases h
theorem AppE.g0H {ys:List α}{d:List (List D)}{sz bytes:Nat}{k:List α→Option ρ}{K:List (List D)→Prop}(h:(appH [] ys).bind k=some r)(hd:d=W e ys)(hsz:∀ x,(e x).length=sz)(hb:bytes≤64)(hk:∀ zs,k zs=some r→K (W e zs)) :
  AppE [] d sz bytes K:=by
 rw[W_nil' e];exact .gH h hd hsz hb hk
end Go.SX
namespace Go.SX.Rg
open Go Go.SX Go.Proofs
set_option maxRecDepth 100000
def c92r0 : List GOp:=[
 gv 4 (.mv (.const (.bool false)))]
def c92r1 : List GOp:=[
 gv 6 (.mv (.tmp 0)),
 gv 7 (.len false (.tmp 6)),
 gv 8 (.mv (.tmp 1)),
 gv 9 (.len false (.tmp 8)),
 gv 10 (.bin .neq (.tmp 7) (.tmp 9))]
def c92r2 : List GOp:=[
 gv 4 (.mv (.const (.bool false)))]
def c92r3 : List GOp:=[
 gv 5 (.mv (.const (.int .i64 0)))]
def c92r4 : List GOp:=[
 gv 11 (.mv (.tmp 5)),
 gv 12 (.mv (.tmp 0)),
 gv 13 (.len false (.tmp 12)),
 gv 14 (.bin .lss (.tmp 11) (.tmp 13))]
def c92r5 : List GOp:=[
 gv 17 (.mv (.tmp 0)),
 gv 18 (.mv (.tmp 5)),
 gv 19 (.idxA 1 (.tmp 17) (.tmp 18)),
 gv 20 (.load 1 false (.tmp 19)),
 gv 21 (.mv (.tmp 1)),
 gv 22 (.mv (.tmp 5)),
 gv 23 (.idxA 1 (.tmp 21) (.tmp 22)),
 gv 24 (.load 1 false (.tmp 23)),
 gv 25 (.bin .neq (.tmp 20) (.tmp 24))]
def c92r6 : List GOp:=[
 gv 4 (.mv (.const (.bool false)))]
def c92r7 : List GOp:=[
 gv 15 (.mv (.tmp 5)),
 gv 16 (.bin .add (.tmp 15) (.const (.int .i64 1))),
 gv 5 (.mv (.tmp 16))]
def c92l8 : DE:=.seq (.seq (.reg c92r4) (.cond (.tmp 14) (.skip) (.exit 0))) (.seq (.block 1 (.seq (.par true true true true 8 c92r5) (.cond (.tmp 25) (.seq (.reg c92r6) (.ret)) (.skip)))) (.reg c92r7))
def c92r9 : List GOp:=[
 gv 4 (.mv (.const (.bool true)))]
def c92 : EFn:=⟨26,.seq (.reg c92r0) (.seq (.seq (.reg c92r1) (.cond (.tmp 10) (.seq (.reg c92r2) (.ret)) (.skip))) (.join (.seq (.reg c92r3) (.block 0 (.loop c92l8))) (.seq (.reg c92r9) (.ret)))),[.tmp 4]⟩
theorem c92_ok : compF Tryz.prog 92=some c92.er:=by kernel_rfl
set_option maxHeartbeats 4000000 in
theorem ref03_Same_R {P:Program}(hP:P=Tryz.prog)(a:(List ByteArray))(b:(List ByteArray))(r:Bool)(h:ref03_Same_g a b=some r):Fn1 P 92 [vLS a,vLS b] (vB r):=by
 refine .walkE (hP▸c92_ok) fun K hK=>?_;unfold ref03_Same_g at h;cbv;refine brkG h ?_ ?_<;>intro h
 ·cbv;obtain rfl:=oj h;exact hK _ _ aw_
 ·cbv;refine .ga h (fun (_:Unit)=>rp 26 .top) (fun _=>[]) (fun y hm hr1 Kn1 hKn1=>?_) fun t h=>?_
  ·have h:=hm;clear hm;cbv;refine .g h (fun (i1:Int)=>[.d (.sl (W eS a)),.d (.sl (W eS b))]++rp 3 .top++[oi i1]++rp 20 .top) (fun i1=>[]) (.nz (.mtE [] ?_)) fun s x h hr2 Kn2 hKn2=>?_
   ·(cbv;repeat (refine⟨an_,?_⟩;cbv))
   unfold ref03_Same_l2 at h;obtain⟨i1,rfl⟩:=ez s;cbv;refine brkG h ?_ ?_<;>intro h
   ·cbv;refine .g h (fun _=>rfl) fun x2 h=>?_;cbv;refine .g h (fun _=>rfl) fun x3 h=>?_;cbv;refine brkG h ?_ ?_<;>intro h
    ·cbv;obtain rfl:=oj h;obtain rfl:=hr2 _ rfl;obtain rfl:=hr1 _ rfl;exact hK _ _ aw_
    ·cbv;obtain rfl:=oj h;refine hKn2 _ _ _ rfl (.nz (.mtE [] ?_));(cbv;repeat (refine⟨an_,?_⟩;cbv))
   ·cbv;obtain rfl:=oj h;obtain rfl:=hr2 _ rfl;refine hKn1 _ _ _ rfl (.nz (.mtE [] ?_));(cbv;repeat (refine⟨an_,?_⟩;cbv))
  cbv;obtain rfl:=oj h;exact hK _ _ aw_
end Go.SX.Rg
namespace Go.SX.Rg
open Go Go.SX Go.Proofs
set_option maxRecDepth 100000
def c53r0 : List GOp:=[
 gv 2 (.box 35 (.tmp 0)),
 gv 3 (.box 35 (.tmp 1)),
 gv 4 (.mv (.const (.bool false)))]
def c53r1 : List GOp:=[
 gv 6 (.fadd 0 (.tmp 2)),
 gv 7 (.load 1 false (.tmp 6)),
 gv 8 (.fadd 0 (.tmp 3)),
 gv 9 (.load 1 false (.tmp 8)),
 gv 10 (.bin .neq (.tmp 7) (.tmp 9)),
 gv 11 (.mv (.tmp 10)),
 gw 12 11 false (.fadd 1 (.tmp 2)),
 gw 13 11 false (.load 1 false (.tmp 12)),
 gw 14 11 false (.fadd 1 (.tmp 3)),
 gw 15 11 false (.load 1 false (.tmp 14)),
 gw 16 11 false (.bin .neq (.tmp 13) (.tmp 15)),
 gv 17 (.pick (.tmp 11) (.const (.bool true)) (.tmp 16)),
 gv 18 (.mv (.tmp 17)),
 gw 19 18 false (.fadd 3 (.tmp 2)),
 gw 20 18 false (.load 1 false (.tmp 19)),
 gw 21 18 false (.fadd 3 (.tmp 3)),
 gw 22 18 false (.load 1 false (.tmp 21)),
 gw 23 18 false (.bin .neq (.tmp 20) (.tmp 22)),
 gv 24 (.pick (.tmp 18) (.const (.bool true)) (.tmp 23)),
 gv 25 (.mv (.tmp 24)),
 gw 26 25 false (.fadd 4 (.tmp 2)),
 gw 27 25 false (.load 1 false (.tmp 26)),
 gw 28 25 false (.len false (.tmp 27)),
 gw 29 25 false (.fadd 4 (.tmp 3)),
 gw 30 25 false (.load 1 false (.tmp 29)),
 gw 31 25 false (.len false (.tmp 30)),
 gw 32 25 false (.bin .lss (.tmp 28) (.tmp 31)),
 gv 33 (.pick (.tmp 25) (.const (.bool true)) (.tmp 32))]
def c53r2 : List GOp:=[
 gv 4 (.mv (.const (.bool false)))]
def c53r3 : List GOp:=[
 gv 5 (.mv (.const (.int .i64 0)))]
def c53r4 : List GOp:=[
 gv 34 (.mv (.tmp 5)),
 gv 35 (.fadd 4 (.tmp 3)),
 gv 36 (.load 1 false (.tmp 35)),
 gv 37 (.len false (.tmp 36)),
 gv 38 (.bin .lss (.tmp 34) (.tmp 37))]
def c53r5 : List GOp:=[
 gv 41 (.fadd 4 (.tmp 2)),
 gv 42 (.load 1 false (.tmp 41)),
 gv 43 (.mv (.tmp 5)),
 gv 44 (.idxA 2 (.tmp 42) (.tmp 43)),
 gv 45 (.fadd 0 (.tmp 44)),
 gv 46 (.load 1 false (.tmp 45)),
 gv 47 (.fadd 4 (.tmp 3)),
 gv 48 (.load 1 false (.tmp 47)),
 gv 49 (.mv (.tmp 5)),
 gv 50 (.idxA 2 (.tmp 48) (.tmp 49)),
 gv 51 (.fadd 0 (.tmp 50)),
 gv 52 (.load 1 false (.tmp 51)),
 gv 53 (.bin .neq (.tmp 46) (.tmp 52)),
 gv 54 (.mv (.tmp 53)),
 gw 55 54 false (.fadd 4 (.tmp 2)),
 gw 56 54 false (.load 1 false (.tmp 55)),
 gw 57 54 false (.mv (.tmp 5)),
 gw 58 54 false (.idxA 2 (.tmp 56) (.tmp 57)),
 gw 59 54 false (.fadd 1 (.tmp 58)),
 gw 60 54 false (.load 1 false (.tmp 59)),
 gw 61 54 false (.fadd 4 (.tmp 3)),
 gw 62 54 false (.load 1 false (.tmp 61)),
 gw 63 54 false (.mv (.tmp 5)),
 gw 64 54 false (.idxA 2 (.tmp 62) (.tmp 63)),
 gw 65 54 false (.fadd 1 (.tmp 64)),
 gw 66 54 false (.load 1 false (.tmp 65)),
 gw 67 54 false (.call 92 [(.tmp 60),(.tmp 66)]),
 gw 68 54 false (.un .not (.tmp 67)),
 gv 69 (.pick (.tmp 54) (.const (.bool true)) (.tmp 68))]
def c53r6 : List GOp:=[
 gv 4 (.mv (.const (.bool false)))]
def c53r7 : List GOp:=[
 gv 39 (.mv (.tmp 5)),
 gv 40 (.bin .add (.tmp 39) (.const (.int .i64 1))),
 gv 5 (.mv (.tmp 40))]
def c53l8 : DE:=.seq (.seq (.reg c53r4) (.cond (.tmp 38) (.skip) (.exit 0))) (.seq (.block 1 (.join (.par false false false true 26 c53r5) (.cond (.tmp 69) (.seq (.reg c53r6) (.ret)) (.skip)))) (.reg c53r7))
def c53r9 : List GOp:=[
 gv 4 (.mv (.const (.bool true)))]
def c53 : EFn:=⟨70,.seq (.reg c53r0) (.seq (.join (.reg c53r1) (.cond (.tmp 33) (.seq (.reg c53r2) (.ret)) (.skip))) (.join (.seq (.reg c53r3) (.block 0 (.loop c53l8))) (.seq (.reg c53r9) (.ret)))),[.tmp 4]⟩
theorem c53_ok : compF Tryz.prog 53=some c53.er:=by kernel_rfl
set_option maxHeartbeats 4000000 in
theorem ref30_Extends_R {P:Program}(hP:P=Tryz.prog)(a:Title)(b:Title)(r:Bool)(h:ref30_Extends_g a b=some r):Fn1 P 53 [vTitle a,vTitle b] (vB r):=by
 refine .walkE (hP▸c53_ok) fun K hK=>?_;unfold ref30_Extends_g at h;cbv;refine .g h (fun (v1:Bool)=>[.top,.top,.ptr 0 0,.ptr 1 0]++rp 29 .top++[ob v1]++rp 36 .top) (fun v1=>[.cells [oi a.Serial,oi a.Show,oi a.Place,.d (.val (.string a.First)),.d (.sl (W eTransfer a.Chain))] 35,.cells [oi b.Serial,oi b.Show,oi b.Place,.d (.val (.string b.First)),.d (.sl (W eTransfer b.Chain))] 35]) (fun y hm Kn1 hKn1=>?_) fun t h=>?_
 ·have h:=hm;clear hm;cbv;refine brkG h ?_ ?_<;>intro h
  ·cbv;obtain rfl:=oj h;refine hKn1 _ _ _ rfl (.nz (.mtE [0,1] ?_));(cbv;repeat (refine⟨an_,?_⟩;cbv))
  ·cbv;refine brkG h ?_ ?_<;>intro h
   ·cbv;obtain rfl:=oj h;refine hKn1 _ _ _ rfl (.nz (.mtE [0,1] ?_));(cbv;repeat (refine⟨an_,?_⟩;cbv))
   ·cbv;refine brkG h ?_ ?_<;>intro h
    ·cbv;obtain rfl:=oj h;refine hKn1 _ _ _ rfl (.nz (.mtE [0,1] ?_));(cbv;repeat (refine⟨an_,?_⟩;cbv))
    ·cbv;obtain rfl:=oj h;refine hKn1 _ _ _ rfl (.nz (.mtE [0,1] ?_));(cbv;repeat (refine⟨an_,?_⟩;cbv))
 obtain⟨v1,rfl⟩:=ez t;cbv;refine brkG h ?_ ?_<;>intro h
 ·cbv;obtain rfl:=oj h;exact hK _ _ aw_
 ·cbv;refine .ga h (fun (_:Unit)=>rp 70 .top) (fun _=>[]) (fun y hm hr1 Kn1 hKn1=>?_) fun t h=>?_
  ·have h:=hm;clear hm;cbv;refine .g h (fun (i2:Int)=>[.top,.top,.ptr 0 0,.ptr 1 0,.top,oi i2]++rp 64 .top) (fun i2=>[.cells [oi a.Serial,oi a.Show,oi a.Place,.d (.val (.string a.First)),.d (.sl (W eTransfer a.Chain))] 35,.cells [oi b.Serial,oi b.Show,oi b.Place,.d (.val (.string b.First)),.d (.sl (W eTransfer b.Chain))] 35]) (.nz (.mtE [0,1] ?_)) fun s x h hr2 Kn2 hKn2=>?_
   ·(cbv;repeat (refine⟨an_,?_⟩;cbv))
   unfold ref30_Extends_l2 at h;obtain⟨i2,rfl⟩:=ez s;cbv;refine brkG h ?_ ?_<;>intro h
   ·cbv;refine .g h (fun (v3:Bool)=>[.top,.top,.ptr 0 0,.ptr 1 0,.top,oi i2]++rp 63 .top++[ob v3]) (fun v3=>[.cells [oi a.Serial,oi a.Show,oi a.Place,.d (.val (.string a.First)),.d (.sl (W eTransfer a.Chain))] 35,.cells [oi b.Serial,oi b.Show,oi b.Place,.d (.val (.string b.First)),.d (.sl (W eTransfer b.Chain))] 35]) (fun y hm Kn3 hKn3=>?_) fun t h=>?_
    ·have h:=hm;clear hm;cbv;refine .g h (fun _=>rfl) fun x4 h=>?_;cbv;refine .g h (fun _=>rfl) fun x5 h=>?_;cbv;refine brkG h ?_ ?_<;>intro h
     ·cbv;obtain rfl:=oj h;refine hKn3 _ _ _ rfl (.nz (.mtE [0,1] ?_));(cbv;repeat (refine⟨an_,?_⟩;cbv))
     ·cbv;refine .g h (fun _=>rfl) fun x6 h=>?_;cbv;refine .g h (fun _=>rfl) fun x7 h=>?_;cbv;refine .g h (fun v hv=>ref03_Same_R hP _ _ v hv) aw_ rfl (fun _=>rfl) fun v8 h=>?_;cbv;obtain rfl:=oj h;refine hKn3 _ _ _ rfl (.nz (.mtE [0,1] ?_));(cbv;repeat (refine⟨an_,?_⟩;cbv))
    obtain⟨v3,rfl⟩:=ez t;cbv;refine brkG h ?_ ?_<;>intro h
    ·cbv;obtain rfl:=oj h;obtain rfl:=hr2 _ rfl;obtain rfl:=hr1 _ rfl;exact hK _ _ aw_
    ·cbv;obtain rfl:=oj h;refine hKn2 _ _ _ rfl (.nz (.mtE [0,1] ?_));(cbv;repeat (refine⟨an_,?_⟩;cbv))
   ·cbv;obtain rfl:=oj h;obtain rfl:=hr2 _ rfl;refine hKn1 _ _ _ rfl (.nz (.mtE [] ?_));(cbv;repeat (refine⟨an_,?_⟩;cbv))
  cbv;obtain rfl:=oj h;exact hK _ _ aw_
end Go.SX.Rg
namespace Go.SX.Rg
open Go Go.SX Go.Proofs
set_option maxRecDepth 100000
def c28r0 : List GOp:=[
 gv 2 (.box 35 (.tmp 0)),
 gv 3 (.box 35 (.tmp 1)),
 gv 4 (.mv (.const (.bool false)))]
def c28r1 : List GOp:=[
 gv 5 (.load 5 true (.tmp 2)),
 gv 6 (.load 5 true (.tmp 3)),
 gv 7 (.call 53 [(.tmp 5),(.tmp 6)]),
 gv 8 (.mv (.tmp 7)),
 gw 9 8 true (.load 5 true (.tmp 3)),
 gw 10 8 true (.load 5 true (.tmp 2)),
 gw 11 8 true (.call 53 [(.tmp 9),(.tmp 10)]),
 gv 12 (.pick (.tmp 8) (.tmp 11) (.const (.bool false))),
 gv 13 (.mv (.tmp 12)),
 gw 14 13 true (.fadd 2 (.tmp 2)),
 gw 15 13 true (.load 1 false (.tmp 14)),
 gw 16 13 true (.fadd 2 (.tmp 3)),
 gw 17 13 true (.load 1 false (.tmp 16)),
 gw 18 13 true (.bin .eql (.tmp 15) (.tmp 17)),
 gv 19 (.pick (.tmp 13) (.tmp 18) (.const (.bool false))),
 gv 4 (.mv (.tmp 19))]
def c28 : EFn:=⟨20,.seq (.reg c28r0) (.seq (.reg c28r1) (.ret)),[.tmp 4]⟩
theorem c28_ok : compF Tryz.prog 28=some c28.er:=by kernel_rfl
set_option maxHeartbeats 4000000 in
theorem ref30_Same_R {P:Program}(hP:P=Tryz.prog)(a:Title)(b:Title)(r:Bool)(h:ref30_Same_g a b=some r):Fn1 P 28 [vTitle a,vTitle b] (vB r):=by
 refine .walkE (hP▸c28_ok) fun K hK=>?_;unfold ref30_Same_g at h;cbv;refine .g h (fun v hv=>ref30_Extends_R hP _ _ v hv) aw_ rfl (fun _=>rfl) fun v1 h=>?_;cbv;refine brkG h ?_ ?_<;>intro h
 ·cbv;refine .g h (fun v hv=>ref30_Extends_R hP _ _ v hv) aw_ rfl (fun _=>rfl) fun v2 h=>?_;cbv;refine brkG h ?_ ?_<;>intro h
  ·cbv;obtain rfl:=oj h;exact hK _ _ aw_
  ·cbv;obtain rfl:=oj h;exact hK _ _ aw_
 ·cbv;obtain rfl:=oj h;exact hK _ _ aw_
end Go.SX.Rg
namespace Go.SX.Rg
open Go Go.SX Go.Proofs
set_option maxRecDepth 100000
def c71r0 : List GOp:=[
 gv 2 (.mv (.const (.int .i64 0)))]
def c71r1 : List GOp:=[
 gv 3 (.mv (.tmp 0)),
 gv 4 (.bin .geq (.tmp 3) (.const (.int .u8 48))),
 gv 5 (.mv (.tmp 4)),
 gw 6 5 true (.mv (.tmp 0)),
 gw 7 5 true (.bin .leq (.tmp 6) (.const (.int .u8 57))),
 gv 8 (.pick (.tmp 5) (.tmp 7) (.const (.bool false)))]
def c71r2 : List GOp:=[
 gv 9 (.mv (.tmp 0)),
 gv 10 (.bin .sub (.tmp 9) (.const (.int .u8 48))),
 gv 11 (.cvi .i64 (.tmp 10)),
 gv 2 (.mv (.tmp 11))]
def c71r3 : List GOp:=[
 gv 12 (.mv (.tmp 0)),
 gv 13 (.bin .geq (.tmp 12) (.const (.int .u8 97))),
 gv 14 (.mv (.tmp 13)),
 gw 15 14 true (.mv (.tmp 0)),
 gw 16 14 true (.bin .leq (.tmp 15) (.const (.int .u8 102))),
 gv 17 (.pick (.tmp 14) (.tmp 16) (.const (.bool false)))]
def c71r4 : List GOp:=[
 gv 18 (.mv (.tmp 0)),
 gv 19 (.bin .sub (.tmp 18) (.const (.int .u8 97))),
 gv 20 (.cvi .i64 (.tmp 19)),
 gv 21 (.bin .add (.tmp 20) (.const (.int .i64 10))),
 gv 2 (.mv (.tmp 21))]
def c71r5 : List GOp:=[
 gv 2 (.mv (.const (.int .i64 (-1))))]
def c71 : EFn:=⟨22,.seq (.reg c71r0) (.seq (.join (.reg c71r1) (.cond (.tmp 8) (.seq (.reg c71r2) (.ret)) (.skip))) (.seq (.join (.reg c71r3) (.cond (.tmp 17) (.seq (.reg c71r4) (.ret)) (.skip))) (.seq (.reg c71r5) (.ret)))),[.tmp 2]⟩
theorem c71_ok : compF Tryz.prog 71=some c71.er:=by kernel_rfl
set_option maxHeartbeats 4000000 in
theorem ref02_Digit_R {P:Program}(hP:P=Tryz.prog)(c:Int)(r:Int)(h:ref02_Digit_g c=some r):Fn1 P 71 [vIu8 c] (vIi64 r):=by
 refine .walkE (hP▸c71_ok) fun K hK=>?_;unfold ref02_Digit_g at h;cbv;refine .g h (fun (v1:Bool)=>[.d (.val (.int .u8 c))]++rp 7 .top++[ob v1]++rp 13 .top) (fun v1=>[]) (fun y hm Kn1 hKn1=>?_) fun t h=>?_
 ·have h:=hm;clear hm;cbv;refine brkG h ?_ ?_<;>intro h
  ·cbv;obtain rfl:=oj h;refine hKn1 _ _ _ rfl (.nz (.mtE [] ?_));(cbv;repeat (refine⟨an_,?_⟩;cbv))
  ·cbv;obtain rfl:=oj h;refine hKn1 _ _ _ rfl (.nz (.mtE [] ?_));(cbv;repeat (refine⟨an_,?_⟩;cbv))
 obtain⟨v1,rfl⟩:=ez t;cbv;refine brkG h ?_ ?_<;>intro h
 ·cbv;obtain rfl:=oj h;exact hK _ _ aw_
 ·cbv;refine .g h (fun (v2:Bool)=>[.d (.val (.int .u8 c))]++rp 16 .top++[ob v2]++rp 4 .top) (fun v2=>[]) (fun y hm Kn1 hKn1=>?_) fun t h=>?_
  ·have h:=hm;clear hm;cbv;refine brkG h ?_ ?_<;>intro h
   ·cbv;obtain rfl:=oj h;refine hKn1 _ _ _ rfl (.nz (.mtE [] ?_));(cbv;repeat (refine⟨an_,?_⟩;cbv))
   ·cbv;obtain rfl:=oj h;refine hKn1 _ _ _ rfl (.nz (.mtE [] ?_));(cbv;repeat (refine⟨an_,?_⟩;cbv))
  obtain⟨v2,rfl⟩:=ez t;cbv;refine brkG h ?_ ?_<;>intro h
  ·cbv;obtain rfl:=oj h;exact hK _ _ aw_
  ·cbv;obtain rfl:=oj h;exact hK _ _ aw_
end Go.SX.Rg
namespace Go.SX.Rg
open Go Go.SX Go.Proofs
set_option maxRecDepth 100000
def c40r0 : List GOp:=[
 gv 2 (.mv (.const (.bool false)))]
def c40r1 : List GOp:=[
 gv 3 (.mv (.const (.int .i64 0)))]
def c40r2 : List GOp:=[
 gv 4 (.mv (.tmp 3)),
 gv 5 (.mv (.tmp 0)),
 gv 6 (.len true (.tmp 5)),
 gv 7 (.bin .lss (.tmp 4) (.tmp 6)),
 gv 8 (.mv (.tmp 7)),
 gw 9 8 true (.mv (.tmp 3)),
 gw 10 8 true (.bin .lss (.tmp 9) (.const (.int .i64 16))),
 gv 11 (.pick (.tmp 8) (.tmp 10) (.const (.bool false)))]
def c40r3 : List GOp:=[
 gv 14 (.mv (.tmp 0)),
 gv 15 (.mv (.tmp 3)),
 gv 16 (.idxS (.tmp 14) (.tmp 15)),
 gv 17 (.call 71 [(.tmp 16)]),
 gv 18 (.bin .lss (.tmp 17) (.const (.int .i64 0)))]
def c40r4 : List GOp:=[
 gv 2 (.mv (.const (.bool false)))]
def c40r5 : List GOp:=[
 gv 12 (.mv (.tmp 3)),
 gv 13 (.bin .add (.tmp 12) (.const (.int .i64 1))),
 gv 3 (.mv (.tmp 13))]
def c40l6 : DE:=.seq (.join (.reg c40r2) (.cond (.tmp 11) (.skip) (.exit 0))) (.seq (.block 1 (.seq (.reg c40r3) (.cond (.tmp 18) (.seq (.reg c40r4) (.ret)) (.skip)))) (.reg c40r5))
def c40r7 : List GOp:=[
 gv 19 (.mv (.tmp 0)),
 gv 20 (.len true (.tmp 19)),
 gv 21 (.bin .eql (.tmp 20) (.const (.int .i64 16))),
 gv 2 (.mv (.tmp 21))]
def c40 : EFn:=⟨22,.seq (.reg c40r0) (.join (.seq (.reg c40r1) (.block 0 (.loop c40l6))) (.seq (.reg c40r7) (.ret))),[.tmp 2]⟩
theorem c40_ok : compF Tryz.prog 40=some c40.er:=by kernel_rfl
set_option maxHeartbeats 4000000 in
theorem ref02_Is_R {P:Program}(hP:P=Tryz.prog)(text:ByteArray)(r:Bool)(h:ref02_Is_g text=some r):Fn1 P 40 [vS text] (vB r):=by
 refine .walkE (hP▸c40_ok) fun K hK=>?_;unfold ref02_Is_g at h;cbv;refine .ga h (fun (_:Unit)=>[.d (.val (.string text))]++rp 21 .top) (fun _=>[]) (fun y hm hr1 Kn1 hKn1=>?_) fun t h=>?_
 ·have h:=hm;clear hm;cbv;refine .g h (fun (i1:Int)=>[.d (.val (.string text)),.top,.top,oi i1]++rp 18 .top) (fun i1=>[]) (.nz (.mtE [] ?_)) fun s x h hr2 Kn2 hKn2=>?_
  ·(cbv;repeat (refine⟨an_,?_⟩;cbv))
  unfold ref02_Is_l2 at h;obtain⟨i1,rfl⟩:=ez s;cbv;refine .g h (fun (v2:Bool)=>[.d (.val (.string text)),.top,.top,oi i1]++rp 7 .top++[ob v2]++rp 10 .top) (fun v2=>[]) (fun y hm Kn3 hKn3=>?_) fun t h=>?_
  ·have h:=hm;clear hm;cbv;refine brkG h ?_ ?_<;>intro h
   ·cbv;obtain rfl:=oj h;refine hKn3 _ _ _ rfl (.nz (.mtE [] ?_));(cbv;repeat (refine⟨an_,?_⟩;cbv))
   ·cbv;obtain rfl:=oj h;refine hKn3 _ _ _ rfl (.nz (.mtE [] ?_));(cbv;repeat (refine⟨an_,?_⟩;cbv))
  obtain⟨v2,rfl⟩:=ez t;cbv;refine brkG h ?_ ?_<;>intro h
  ·cbv;refine .g h fun b3 h=>?_;cbv;refine .g h (fun v hv=>ref02_Digit_R hP _ v hv) aw_ rfl (fun _=>rfl) fun v4 h=>?_;cbv;refine brkG h ?_ ?_<;>intro h
   ·cbv;obtain rfl:=oj h;obtain rfl:=hr2 _ rfl;obtain rfl:=hr1 _ rfl;exact hK _ _ aw_
   ·cbv;obtain rfl:=oj h;refine hKn2 _ _ _ rfl (.nz (.mtE [] ?_));(cbv;repeat (refine⟨an_,?_⟩;cbv))
  ·cbv;obtain rfl:=oj h;obtain rfl:=hr2 _ rfl;refine hKn1 _ _ _ rfl (.nz (.mtE [] ?_));(cbv;repeat (refine⟨an_,?_⟩;cbv))
 cbv;obtain rfl:=oj h;exact hK _ _ aw_
end Go.SX.Rg
