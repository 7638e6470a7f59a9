/- Parts of the proof. -/
import Derived.Test.YtlpempbeenpilaaGreatDoorZRgT
set_option linter.unusedSimpArgs false
set_option linter.unusedVariables false
set_option linter.unusedSectionVars false
namespace Go.SX.Rg
open Go Go.SX Go.Proofs
set_option maxRecDepth 100000
noncomputable def ref02_Few_l2 (l:(List ByteArray))(most:Int):Int→Option ((Int) ⊕ ((Unit) ⊕ (Bool)))
 | i1 =>
 bif (io.lt i1 (io.len (W eS l))) then (
 Option.bind (idxG l i1) fun x2 =>
 bif (io.lt most (io.ssz x2)) then (
 some (.inr (.inr false))
 ) else (
 some (.inl (io.ar .add .i64 i1 1))
 )
 ) else (
 some (.inr (.inl ()))
 )
noncomputable def ref02_Few_g (l:(List ByteArray))(most:Int):Option (Bool) :=
 orR (
 whileG (ref02_Few_l2 l most) 0
 ) fun _ =>
 some (io.le (io.len (W eS l)) 30)
end Go.SX.Rg
namespace Go.SX.Rg
open Go Go.SX Go.Proofs
set_option maxRecDepth 100000
noncomputable def law32_few_l2 (l:(List Op)):Int→Option ((Int) ⊕ ((Unit) ⊕ (Bool)))
 | i1 =>
 bif (io.lt i1 (io.len (W eOp l))) then (
 Option.bind (
 Option.bind (idxG l i1) fun x3 =>
 bif (io.lt 60 (io.ssz x3.Key)) then (
 some true
 ) else (
 Option.bind (idxG l i1) fun x4 =>
 bif (io.lt 20 (io.len (W eS x4.Sig))) then (
 some true
 ) else (
 Option.bind (idxG l i1) fun x5 =>
 Option.bind (ref02_Few_g x5.Sig 60) fun v6 =>
 some (io.not v6)
 )
 )
 ) fun v2 =>
 bif v2 then (
 some (.inr (.inr false))
 ) else (
 some (.inl (io.ar .add .i64 i1 1))
 )
 ) else (
 some (.inr (.inl ()))
 )
noncomputable def law32_few_g (l:(List Op)):Option (Bool) :=
 orR (
 whileG (law32_few_l2 l) 0
 ) fun _ =>
 some (io.le (io.len (W eOp l)) 16)
end Go.SX.Rg
namespace Go.SX.Rg
open Go Go.SX Go.Proofs
set_option maxRecDepth 100000
def c46r0 : List GOp:=[
 gv 4 (.mv (.const (.bool false)))]
def c46r1 : List GOp:=[
 gv 5 (.mv (.const (.int .i64 0)))]
def c46r2 : List GOp:=[
 gv 6 (.mv (.tmp 5)),
 gv 7 (.mv (.tmp 0)),
 gv 8 (.len false (.tmp 7)),
 gv 9 (.bin .lss (.tmp 6) (.tmp 8))]
def c46r3 : List GOp:=[
 gv 12 (.mv (.tmp 0)),
 gv 13 (.mv (.tmp 5)),
 gv 14 (.idxA 1 (.tmp 12) (.tmp 13)),
 gv 15 (.load 1 false (.tmp 14)),
 gv 16 (.len true (.tmp 15)),
 gv 17 (.mv (.tmp 1)),
 gv 18 (.bin .gtr (.tmp 16) (.tmp 17))]
def c46r4 : List GOp:=[
 gv 4 (.mv (.const (.bool false)))]
def c46r5 : List GOp:=[
 gv 10 (.mv (.tmp 5)),
 gv 11 (.bin .add (.tmp 10) (.const (.int .i64 1))),
 gv 5 (.mv (.tmp 11))]
def c46l6 : DE:=.seq (.seq (.reg c46r2) (.cond (.tmp 9) (.skip) (.exit 0))) (.seq (.block 1 (.seq (.reg c46r3) (.cond (.tmp 18) (.seq (.reg c46r4) (.ret)) (.skip)))) (.reg c46r5))
def c46r7 : List GOp:=[
 gv 19 (.mv (.tmp 0)),
 gv 20 (.len false (.tmp 19)),
 gv 21 (.bin .leq (.tmp 20) (.const (.int .i64 30))),
 gv 4 (.mv (.tmp 21))]
def c46 : EFn:=⟨22,.seq (.reg c46r0) (.join (.seq (.reg c46r1) (.block 0 (.loop c46l6))) (.seq (.reg c46r7) (.ret))),[.tmp 4]⟩
theorem c46_ok : compF Tryz.prog 46=some c46.er:=by kernel_rfl
set_option maxHeartbeats 4000000 in
theorem ref02_Few_R {P:Program}(hP:P=Tryz.prog)(l:(List ByteArray))(most:Int)(r:Bool)(h:ref02_Few_g l most=some r):Fn1 P 46 [vLS l,vIi64 most] (vB r):=by
 refine .walkE (hP▸c46_ok) fun K hK=>?_;unfold ref02_Few_g at h;cbv;refine .ga h (fun (_:Unit)=>[.d (.sl (W eS l))]++rp 21 .top) (fun _=>[]) (fun y hm hr1 Kn1 hKn1=>?_) fun t h=>?_
 ·have h:=hm;clear hm;cbv;refine .g h (fun (i1:Int)=>[.d (.sl (W eS l)),oi most]++rp 3 .top++[oi i1]++rp 16 .top) (fun i1=>[]) (.nz (.mtE [] ?_)) fun s x h hr2 Kn2 hKn2=>?_
  ·(cbv;repeat (refine⟨an_,?_⟩;cbv))
  unfold ref02_Few_l2 at h;obtain⟨i1,rfl⟩:=ez s;cbv;refine brkG h ?_ ?_<;>intro h
  ·cbv;refine .g h (fun _=>rfl) fun x2 h=>?_;cbv;refine brkG h ?_ ?_<;>intro h
   ·cbv;obtain rfl:=oj h;obtain rfl:=hr2 _ rfl;obtain rfl:=hr1 _ rfl;exact hK _ _ aw_
   ·cbv;obtain rfl:=oj h;refine hKn2 _ _ _ rfl (.nz (.mtE [] ?_));(cbv;repeat (refine⟨an_,?_⟩;cbv))
  ·cbv;obtain rfl:=oj h;obtain rfl:=hr2 _ rfl;refine hKn1 _ _ _ rfl (.nz (.mtE [] ?_));(cbv;repeat (refine⟨an_,?_⟩;cbv))
 cbv;obtain rfl:=oj h;exact hK _ _ aw_
end Go.SX.Rg
namespace Go.SX.Rg
open Go Go.SX Go.Proofs
set_option maxRecDepth 100000
def c10r0 : List GOp:=[
 gv 2 (.mv (.const (.bool false)))]
def c10r1 : List GOp:=[
 gv 3 (.mv (.const (.int .i64 0)))]
def c10r2 : List GOp:=[
 gv 4 (.mv (.tmp 3)),
 gv 5 (.mv (.tmp 0)),
 gv 6 (.len false (.tmp 5)),
 gv 7 (.bin .lss (.tmp 4) (.tmp 6))]
def c10r3 : List GOp:=[
 gv 10 (.mv (.tmp 0)),
 gv 11 (.mv (.tmp 3)),
 gv 12 (.idxA 5 (.tmp 10) (.tmp 11)),
 gv 13 (.fadd 3 (.tmp 12)),
 gv 14 (.load 1 false (.tmp 13)),
 gv 15 (.len true (.tmp 14)),
 gv 16 (.bin .gtr (.tmp 15) (.const (.int .i64 60))),
 gv 17 (.mv (.tmp 16)),
 gw 18 17 false (.mv (.tmp 0)),
 gw 19 17 false (.mv (.tmp 3)),
 gw 20 17 false (.idxA 5 (.tmp 18) (.tmp 19)),
 gw 21 17 false (.fadd 4 (.tmp 20)),
 gw 22 17 false (.load 1 false (.tmp 21)),
 gw 23 17 false (.len false (.tmp 22)),
 gw 24 17 false (.bin .gtr (.tmp 23) (.const (.int .i64 20))),
 gv 25 (.pick (.tmp 17) (.const (.bool true)) (.tmp 24)),
 gv 26 (.mv (.tmp 25)),
 gw 27 26 false (.mv (.tmp 0)),
 gw 28 26 false (.mv (.tmp 3)),
 gw 29 26 false (.idxA 5 (.tmp 27) (.tmp 28)),
 gw 30 26 false (.fadd 4 (.tmp 29)),
 gw 31 26 false (.load 1 false (.tmp 30)),
 gw 32 26 false (.call 46 [(.tmp 31),(.const (.int .i64 60))]),
 gw 33 26 false (.un .not (.tmp 32)),
 gv 34 (.pick (.tmp 26) (.const (.bool true)) (.tmp 33))]
def c10r4 : List GOp:=[
 gv 2 (.mv (.const (.bool false)))]
def c10r5 : List GOp:=[
 gv 8 (.mv (.tmp 3)),
 gv 9 (.bin .add (.tmp 8) (.const (.int .i64 1))),
 gv 3 (.mv (.tmp 9))]
def c10l6 : DE:=.seq (.seq (.reg c10r2) (.cond (.tmp 7) (.skip) (.exit 0))) (.seq (.block 1 (.join (.reg c10r3) (.cond (.tmp 34) (.seq (.reg c10r4) (.ret)) (.skip)))) (.reg c10r5))
def c10r7 : List GOp:=[
 gv 35 (.mv (.tmp 0)),
 gv 36 (.len false (.tmp 35)),
 gv 37 (.bin .leq (.tmp 36) (.const (.int .i64 16))),
 gv 2 (.mv (.tmp 37))]
def c10 : EFn:=⟨38,.seq (.reg c10r0) (.join (.seq (.reg c10r1) (.block 0 (.loop c10l6))) (.seq (.reg c10r7) (.ret))),[.tmp 2]⟩
theorem c10_ok : compF Tryz.prog 10=some c10.er:=by kernel_rfl
set_option maxHeartbeats 4000000 in
theorem law32_few_R {P:Program}(hP:P=Tryz.prog)(l:(List Op))(r:Bool)(h:law32_few_g l=some r):Fn1 P 10 [vLOp l] (vB r):=by
 refine .walkE (hP▸c10_ok) fun K hK=>?_;unfold law32_few_g at h;cbv;refine .ga h (fun (_:Unit)=>[.d (.sl (W eOp l))]++rp 37 .top) (fun _=>[]) (fun y hm hr1 Kn1 hKn1=>?_) fun t h=>?_
 ·have h:=hm;clear hm;cbv;refine .g h (fun (i1:Int)=>[.d (.sl (W eOp l)),.top,.top,oi i1]++rp 34 .top) (fun i1=>[]) (.nz (.mtE [] ?_)) fun s x h hr2 Kn2 hKn2=>?_
  ·(cbv;repeat (refine⟨an_,?_⟩;cbv))
  unfold law32_few_l2 at h;obtain⟨i1,rfl⟩:=ez s;cbv;refine brkG h ?_ ?_<;>intro h
  ·cbv;refine .g h (fun (v2:Bool)=>[.d (.sl (W eOp l)),.top,.top,oi i1]++rp 30 .top++[ob v2]++rp 3 .top) (fun v2=>[]) (fun y hm Kn3 hKn3=>?_) fun t h=>?_
   ·have h:=hm;clear hm;cbv;refine .g h (fun _=>rfl) fun x3 h=>?_;cbv;refine brkG h ?_ ?_<;>intro h
    ·cbv;obtain rfl:=oj h;refine hKn3 _ _ _ rfl (.nz (.mtE [] ?_));(cbv;repeat (refine⟨an_,?_⟩;cbv))
    ·cbv;refine .g h (fun _=>rfl) fun x4 h=>?_;cbv;refine brkG h ?_ ?_<;>intro h
     ·cbv;obtain rfl:=oj h;refine hKn3 _ _ _ rfl (.nz (.mtE [] ?_));(cbv;repeat (refine⟨an_,?_⟩;cbv))
     ·cbv;refine .g h (fun _=>rfl) fun x5 h=>?_;cbv;refine .g h (fun v hv=>ref02_Few_R hP _ _ v hv) aw_ rfl (fun _=>rfl) fun v6 h=>?_;cbv;obtain rfl:=oj h;refine hKn3 _ _ _ rfl (.nz (.mtE [] ?_));(cbv;repeat (refine⟨an_,?_⟩;cbv))
   obtain⟨v2,rfl⟩:=ez t;cbv;refine brkG h ?_ ?_<;>intro h
   ·cbv;obtain rfl:=oj h;obtain rfl:=hr2 _ rfl;obtain rfl:=hr1 _ rfl;exact hK _ _ aw_
   ·cbv;obtain rfl:=oj h;refine hKn2 _ _ _ rfl (.nz (.mtE [] ?_));(cbv;repeat (refine⟨an_,?_⟩;cbv))
  ·cbv;obtain rfl:=oj h;obtain rfl:=hr2 _ rfl;refine hKn1 _ _ _ rfl (.nz (.mtE [] ?_));(cbv;repeat (refine⟨an_,?_⟩;cbv))
 cbv;obtain rfl:=oj h;exact hK _ _ aw_
end Go.SX.Rg
namespace Go.SX.Rg
open Go Go.SX Go.Proofs
set_option maxRecDepth 100000
noncomputable def registry_New_b (show_:Int)(places:Int):Option (Bool) :=
 Option.bind (
 bif (io.lt show_ 0) then (
 some true
 ) else (
 bif (io.le 20 show_) then (
 some true
 ) else (
 bif (io.lt places 0) then (
 some true
 ) else (
 some (io.lt 4000 places)
 )
 )
 )
 ) fun v1 =>
 bif v1 then (
 some true
 ) else (
 some false
 )
end Go.SX.Rg
namespace Go.SX.Rg
open Go Go.SX Go.Proofs
set_option maxRecDepth 100000
def c11r0 : List GOp:=[
 gv 4 (.mv (.const (.pointer none)))]
def c11r1 : List GOp:=[
 gv 5 (.mv (.tmp 0)),
 gv 6 (.bin .lss (.tmp 5) (.const (.int .i64 0))),
 gv 7 (.mv (.tmp 6)),
 gw 8 7 false (.mv (.tmp 0)),
 gw 9 7 false (.bin .geq (.tmp 8) (.const (.int .i64 20))),
 gv 10 (.pick (.tmp 7) (.const (.bool true)) (.tmp 9)),
 gv 11 (.mv (.tmp 10)),
 gw 12 11 false (.mv (.tmp 1)),
 gw 13 11 false (.bin .lss (.tmp 12) (.const (.int .i64 0))),
 gv 14 (.pick (.tmp 11) (.const (.bool true)) (.tmp 13)),
 gv 15 (.mv (.tmp 14)),
 gw 16 15 false (.mv (.tmp 1)),
 gw 17 15 false (.bin .gtr (.tmp 16) (.const (.int .i64 4000))),
 gv 18 (.pick (.tmp 15) (.const (.bool true)) (.tmp 17))]
def c11r2 : List GOp:=[
 gv 4 (.mv (.const (.pointer none)))]
def c11r3 : List GOp:=[
 gv 19 (.mv (.tmp 0)),
 gv 20 (.mv (.tmp 1)),
 gv 21 (.mkm (.int .i64) true),
 gv 22 (.mkm (.int .i64) false),
 gv 23 (.build (.agg #[oz,oz,(.map none),(.map none)]) [((0,1),(.tmp 19)),((1,1),(.tmp 20)),((2,1),(.tmp 21)),((3,1),(.tmp 22))]),
 gv 24 (.box 74 (.tmp 23)),
 gv 4 (.mv (.tmp 24))]
def c11 : EFn:=⟨25,.seq (.reg c11r0) (.seq (.join (.reg c11r1) (.cond (.tmp 18) (.seq (.reg c11r2) (.ret)) (.skip))) (.seq (.reg c11r3) (.ret))),[.tmp 4]⟩
theorem c11_ok : compF Tryz.prog 11=some c11.er:=by kernel_rfl
set_option maxHeartbeats 8000000 in
theorem registry_New_no {P:Program}(hP:P=Tryz.prog)(show_:Int)(places:Int)(h:registry_New_b show_ places=some true):SCall P 11 [] [vIi64 show_,vIi64 places] (fun sv own'=>sv=.d (.val (.pointer none))∧own'=[]):=by
 refine .walkF 0 rfl (Nat.le_of_ble_eq_true rfl) (hP▸c11_ok) fun K hK=>?_;unfold registry_New_b at h;cbv;refine .g h (fun (v1:Bool)=>[oi show_,oi places]++rp 16 .top++[ob v1]++rp 6 .top) (fun v1=>[]) (fun y hm Kn1 hKn1=>?_) fun t h=>?_
 ·have h:=hm;clear hm;cbv;refine brkG h ?_ ?_<;>intro h
  ·cbv;obtain rfl:=oj h;refine hKn1 _ _ _ rfl (.nz (.mtE [] ?_));(cbv;repeat (refine⟨an_,?_⟩;cbv))
  ·cbv;refine brkG h ?_ ?_<;>intro h
   ·cbv;obtain rfl:=oj h;refine hKn1 _ _ _ rfl (.nz (.mtE [] ?_));(cbv;repeat (refine⟨an_,?_⟩;cbv))
   ·cbv;refine brkG h ?_ ?_<;>intro h
    ·cbv;obtain rfl:=oj h;refine hKn1 _ _ _ rfl (.nz (.mtE [] ?_));(cbv;repeat (refine⟨an_,?_⟩;cbv))
    ·cbv;obtain rfl:=oj h;refine hKn1 _ _ _ rfl (.nz (.mtE [] ?_));(cbv;repeat (refine⟨an_,?_⟩;cbv))
 obtain⟨v1,rfl⟩:=ez t;cbv;refine brkG h ?_ ?_<;>intro h
 ·cbv;refine hK _ _ [] [] ?_;(cbv;repeat (refine⟨an_,?_⟩;cbv))
 ·cbv
  cases h
set_option maxHeartbeats 8000000 in
theorem registry_New_ok {P:Program}(hP:P=Tryz.prog)(show_:Int)(places:Int)(h:registry_New_b show_ places=some false):SCall P 11 [] [vIi64 show_,vIi64 places] (fun sv own'=>sv=.ptr 0 0∧own'=[.cells [oi show_,oi places,.hd 1,.hd 2] 74,.mp (.int .i64) true (WM (.int .i64) eEntry []),.mp (.int .i64) false (WM (.int .i64) eIi64 [])]):=by
 refine .walkF 0 rfl (Nat.le_of_ble_eq_true rfl) (hP▸c11_ok) fun K hK=>?_;unfold registry_New_b at h;cbv;refine .g h (fun (v1:Bool)=>[oi show_,oi places]++rp 16 .top++[ob v1]++rp 6 .top) (fun v1=>[]) (fun y hm Kn1 hKn1=>?_) fun t h=>?_
 ·have h:=hm;clear hm;cbv;refine brkG h ?_ ?_<;>intro h
  ·cbv;obtain rfl:=oj h;refine hKn1 _ _ _ rfl (.nz (.mtE [] ?_));(cbv;repeat (refine⟨an_,?_⟩;cbv))
  ·cbv;refine brkG h ?_ ?_<;>intro h
   ·cbv;obtain rfl:=oj h;refine hKn1 _ _ _ rfl (.nz (.mtE [] ?_));(cbv;repeat (refine⟨an_,?_⟩;cbv))
   ·cbv;refine brkG h ?_ ?_<;>intro h
    ·cbv;obtain rfl:=oj h;refine hKn1 _ _ _ rfl (.nz (.mtE [] ?_));(cbv;repeat (refine⟨an_,?_⟩;cbv))
    ·cbv;obtain rfl:=oj h;refine hKn1 _ _ _ rfl (.nz (.mtE [] ?_));(cbv;repeat (refine⟨an_,?_⟩;cbv))
 obtain⟨v1,rfl⟩:=ez t;cbv;refine brkG h ?_ ?_<;>intro h
 ·cbv
  cases h
 ·cbv;refine hK _ _ [] [2,0,1] ?_;(cbv;repeat (refine⟨an_,?_⟩;cbv))
end Go.SX.Rg
namespace Go.SX.Rg
open Go Go.SX Go.Proofs
set_option maxRecDepth 100000
noncomputable def law32_secret_g (s_:ByteArray):Option (ByteArray) :=
 Option.bind (catG (⟨#[115,101,99,114,101,116,32]⟩) s_) fun _ =>
 some (io.cat (⟨#[115,101,99,114,101,116,32]⟩) s_)
end Go.SX.Rg
namespace Go.SX.Rg
open Go Go.SX Go.Proofs
set_option maxRecDepth 100000
noncomputable def ref02_digits_l2 : (Int×ByteArray)→Option ((Int×ByteArray) ⊕ (ByteArray))
 | (n3,s4) =>
 bif (io.lt 0 n3) then (
 Option.bind (divG 10) fun _ =>
 Option.bind (divG 10) fun _ =>
 Option.bind (subS (⟨#[48,49,50,51,52,53,54,55,56,57]⟩) (io.rem n3 10) (io.ar .add .u64 (io.rem n3 10) 1)) fun z5 =>
 Option.bind (catG z5 s4) fun _ =>
 Option.bind (divG 10) fun _ =>
 some (.inl ((io.quo .u64 n3 10),(io.cat z5 s4)))
 ) else (
 some (.inr s4)
 )
noncomputable def ref02_digits_g (n:Int):Option (ByteArray) :=
 Option.bind (divG 10) fun _ =>
 Option.bind (divG 10) fun _ =>
 Option.bind (subS (⟨#[48,49,50,51,52,53,54,55,56,57]⟩) (io.rem n 10) (io.ar .add .u64 (io.rem n 10) 1)) fun z1 =>
 Option.bind (
 Option.bind (divG 10) fun _ =>
 whileG (ref02_digits_l2) ((io.quo .u64 n 10),z1)
 ) fun s2 =>
 some s2
end Go.SX.Rg
namespace Go.SX.Rg
open Go Go.SX Go.Proofs
set_option maxRecDepth 100000
noncomputable def ref02_Decimal_g (n:Int):Option (ByteArray) :=
 bif (io.lt n 0) then (
 Option.bind (ref02_digits_g (io.ar .add .u64 (io.wrap .u64 (io.neg .i64 (io.ar .add .i64 n 1))) 1)) fun v1 =>
 Option.bind (catG (⟨#[45]⟩) v1) fun _ =>
 some (io.cat (⟨#[45]⟩) v1)
 ) else (
 Option.bind (ref02_digits_g (io.wrap .u64 n)) fun v2 =>
 some v2
 )
end Go.SX.Rg
namespace Go.SX.Rg
open Go Go.SX Go.Proofs
set_option maxRecDepth 100000
noncomputable def law32_secrets_l2 (l:(List Op)):((List ByteArray)×Int)→Option (((List ByteArray)×Int) ⊕ ((List ByteArray)))
 | (out2,i3) =>
 bif (io.lt i3 (io.len (W eOp l))) then (
 Option.bind (idxG l i3) fun x4 =>
 Option.bind (ref02_Decimal_g x4.At) fun v5 =>
 Option.bind (catG (⟨#[102,105,114,115,116,32]⟩) v5) fun _ =>
 Option.bind (law32_secret_g (io.cat (⟨#[102,105,114,115,116,32]⟩) v5)) fun v6 =>
 Option.bind (idxG l i3) fun x7 =>
 Option.bind (law32_secret_g x7.Key) fun v8 =>
 Option.bind (some [v6,v8]) fun l9 =>
 Option.bind (appG out2 l9) fun out10 =>
 some (.inl (out10,(io.ar .add .i64 i3 1)))
 ) else (
 some (.inr out2)
 )
noncomputable def law32_secrets_g (l:(List Op)):Option ((List ByteArray)) :=
 Option.bind (
 whileG (law32_secrets_l2 l) ([],0)
 ) fun out1 =>
 some out1
end Go.SX.Rg
namespace Go.SX.Rg
open Go Go.SX Go.Proofs
set_option maxRecDepth 100000
def c31r0 : List GOp:=[
 gv 2 (.mv (.const (.string ⟨#[]⟩)))]
def c31r1 : List GOp:=[
 gv 3 (.mv (.tmp 0)),
 gv 4 (.div .add (.const (.string ⟨#[115,101,99,114,101,116,32]⟩)) (.tmp 3)),
 gv 2 (.mv (.tmp 4))]
def c31 : EFn:=⟨5,.seq (.reg c31r0) (.seq (.reg c31r1) (.ret)),[.tmp 2]⟩
theorem c31_ok : compF Tryz.prog 31=some c31.er:=by kernel_rfl
set_option maxHeartbeats 4000000 in
theorem law32_secret_R {P:Program}(hP:P=Tryz.prog)(s_:ByteArray)(r:ByteArray)(h:law32_secret_g s_=some r):Fn1 P 31 [vS s_] (vS r):=by
 refine .walkE (hP▸c31_ok) fun K hK=>?_;unfold law32_secret_g at h;cbv;refine .g h fun h=>?_;cbv;obtain rfl:=oj h;exact hK _ _ aw_
end Go.SX.Rg
namespace Go.SX.Rg
open Go Go.SX Go.Proofs
set_option maxRecDepth 100000
def c83r0 : List GOp:=[
 gv 2 (.mv (.const (.string ⟨#[]⟩)))]
def c83r1 : List GOp:=[
 gv 4 (.mv (.tmp 0)),
 gv 5 (.div .rem (.tmp 4) (.const (.int .u64 10))),
 gv 6 (.mv (.tmp 0)),
 gv 7 (.div .rem (.tmp 6) (.const (.int .u64 10))),
 gv 8 (.bin .add (.tmp 7) (.const (.int .u64 1))),
 gv 9 (.slcS (.const (.string ⟨#[48,49,50,51,52,53,54,55,56,57]⟩)) (some (.tmp 5)) (some (.tmp 8))),
 gv 3 (.mv (.tmp 9))]
def c83r2 : List GOp:=[
 gv 10 (.mv (.tmp 0)),
 gv 11 (.div .quo (.tmp 10) (.const (.int .u64 10))),
 gv 0 (.mv (.tmp 11))]
def c83r3 : List GOp:=[
 gv 12 (.mv (.tmp 0)),
 gv 13 (.bin .gtr (.tmp 12) (.const (.int .u64 0)))]
def c83r4 : List GOp:=[
 gv 16 (.mv (.tmp 0)),
 gv 17 (.div .rem (.tmp 16) (.const (.int .u64 10))),
 gv 18 (.mv (.tmp 0)),
 gv 19 (.div .rem (.tmp 18) (.const (.int .u64 10))),
 gv 20 (.bin .add (.tmp 19) (.const (.int .u64 1))),
 gv 21 (.slcS (.const (.string ⟨#[48,49,50,51,52,53,54,55,56,57]⟩)) (some (.tmp 17)) (some (.tmp 20))),
 gv 22 (.mv (.tmp 3)),
 gv 23 (.div .add (.tmp 21) (.tmp 22)),
 gv 3 (.mv (.tmp 23))]
def c83r5 : List GOp:=[
 gv 14 (.mv (.tmp 0)),
 gv 15 (.div .quo (.tmp 14) (.const (.int .u64 10))),
 gv 0 (.mv (.tmp 15))]
def c83l6 : DE:=.seq (.seq (.reg c83r3) (.cond (.tmp 13) (.skip) (.exit 0))) (.seq (.block 1 (.reg c83r4)) (.reg c83r5))
def c83r7 : List GOp:=[
 gv 24 (.mv (.tmp 3)),
 gv 2 (.mv (.tmp 24))]
def c83 : EFn:=⟨25,.seq (.reg c83r0) (.seq (.reg c83r1) (.join (.seq (.reg c83r2) (.block 0 (.loop c83l6))) (.seq (.reg c83r7) (.ret)))),[.tmp 2]⟩
theorem c83_ok : compF Tryz.prog 83=some c83.er:=by kernel_rfl
set_option maxHeartbeats 4000000 in
theorem ref02_digits_R {P:Program}(hP:P=Tryz.prog)(n:Int)(r:ByteArray)(h:ref02_digits_g n=some r):Fn1 P 83 [vIu64 n] (vS r):=by
 refine .walkE (hP▸c83_ok) fun K hK=>?_;unfold ref02_digits_g at h;cbv;refine .g h fun h=>?_;cbv;refine .g h fun h=>?_;cbv;refine .g h fun z1 h=>?_;cbv;refine .g h (fun (s2:ByteArray)=>rp 3 .top++[.d (.val (.string s2))]++rp 21 .top) (fun s2=>[]) (fun y hm Kn1 hKn1=>?_) fun t h=>?_
 ·have h:=hm;clear hm;cbv;refine .g h fun h=>?_;cbv;refine .g h (fun ((n3,s4):Int×ByteArray)=>[.d (.val (.int .u64 n3)),.top,.top,.d (.val (.string s4))]++rp 21 .top) (fun (n3,s4)=>[]) (.nz (.mtE [] ?_)) fun s x h hr2 Kn2 hKn2=>?_
  ·(cbv;repeat (refine⟨an_,?_⟩;cbv))
  unfold ref02_digits_l2 at h;obtain⟨n3,s4⟩:=s;cbv;refine brkG h ?_ ?_<;>intro h
  ·cbv;refine .g h fun h=>?_;cbv;refine .g h fun h=>?_;cbv;refine .g h fun z5 h=>?_;cbv;refine .g h fun h=>?_;cbv;refine .g h fun h=>?_;cbv;obtain rfl:=oj h;refine hKn2 _ _ _ rfl (.nz (.mtE [] ?_));(cbv;repeat (refine⟨an_,?_⟩;cbv))
  ·cbv;obtain rfl:=oj h;obtain rfl:=hr2 _ rfl;refine hKn1 _ _ _ rfl (.nz (.mtE [] ?_));(cbv;repeat (refine⟨an_,?_⟩;cbv))
 obtain⟨s2,rfl⟩:=ez t;cbv;obtain rfl:=oj h;exact hK _ _ aw_
end Go.SX.Rg
namespace Go.SX.Rg
open Go Go.SX Go.Proofs
set_option maxRecDepth 100000
def c47r0 : List GOp:=[
 gv 2 (.mv (.const (.string ⟨#[]⟩)))]
def c47r1 : List GOp:=[
 gv 3 (.mv (.tmp 0)),
 gv 4 (.bin .lss (.tmp 3) (.const (.int .i64 0)))]
def c47r2 : List GOp:=[
 gv 5 (.mv (.tmp 0)),
 gv 6 (.bin .add (.tmp 5) (.const (.int .i64 1))),
 gv 7 (.un .neg (.tmp 6)),
 gv 8 (.cvi .u64 (.tmp 7)),
 gv 9 (.bin .add (.tmp 8) (.const (.int .u64 1))),
 gv 10 (.call 83 [(.tmp 9)]),
 gv 11 (.div .add (.const (.string ⟨#[45]⟩)) (.tmp 10)),
 gv 2 (.mv (.tmp 11))]
def c47r3 : List GOp:=[
 gv 12 (.mv (.tmp 0)),
 gv 13 (.cvi .u64 (.tmp 12)),
 gv 14 (.call 83 [(.tmp 13)]),
 gv 2 (.mv (.tmp 14))]
def c47 : EFn:=⟨15,.seq (.reg c47r0) (.seq (.seq (.reg c47r1) (.cond (.tmp 4) (.seq (.reg c47r2) (.ret)) (.skip))) (.seq (.reg c47r3) (.ret))),[.tmp 2]⟩
theorem c47_ok : compF Tryz.prog 47=some c47.er:=by kernel_rfl
set_option maxHeartbeats 4000000 in
theorem ref02_Decimal_R {P:Program}(hP:P=Tryz.prog)(n:Int)(r:ByteArray)(h:ref02_Decimal_g n=some r):Fn1 P 47 [vIi64 n] (vS r):=by
 refine .walkE (hP▸c47_ok) fun K hK=>?_;unfold ref02_Decimal_g at h;cbv;refine brkG h ?_ ?_<;>intro h
 ·cbv;refine .g h (fun v hv=>ref02_digits_R hP _ v hv) aw_ rfl (fun _=>rfl) fun v1 h=>?_;cbv;refine .g h fun h=>?_;cbv;obtain rfl:=oj h;exact hK _ _ aw_
 ·cbv;refine .g h (fun v hv=>ref02_digits_R hP _ v hv) aw_ rfl (fun _=>rfl) fun v2 h=>?_;cbv;obtain rfl:=oj h;exact hK _ _ aw_
end Go.SX.Rg
namespace Go.SX.Rg
open Go Go.SX Go.Proofs
set_option maxRecDepth 100000
def c13r0 : List GOp:=[
 gv 2 (.mv (.const (.slice none 0 0)))]
def c13r1 : List GOp:=[
 gv 3 (.mv (.const (.slice none 0 0)))]
def c13r2 : List GOp:=[
 gv 4 (.mv (.const (.int .i64 0)))]
def c13r3 : List GOp:=[
 gv 5 (.mv (.tmp 4)),
 gv 6 (.mv (.tmp 0)),
 gv 7 (.len false (.tmp 6)),
 gv 8 (.bin .lss (.tmp 5) (.tmp 7))]
def c13r4 : List GOp:=[
 gv 11 (.mv (.tmp 3)),
 gv 12 (.mv (.tmp 0)),
 gv 13 (.mv (.tmp 4)),
 gv 14 (.idxA 5 (.tmp 12) (.tmp 13)),
 gv 15 (.fadd 2 (.tmp 14)),
 gv 16 (.load 1 false (.tmp 15)),
 gv 17 (.call 47 [(.tmp 16)]),
 gv 18 (.div .add (.const (.string ⟨#[102,105,114,115,116,32]⟩)) (.tmp 17)),
 gv 19 (.call 31 [(.tmp 18)]),
 gv 20 (.mv (.tmp 0)),
 gv 21 (.mv (.tmp 4)),
 gv 22 (.idxA 5 (.tmp 20) (.tmp 21)),
 gv 23 (.fadd 3 (.tmp 22)),
 gv 24 (.load 1 false (.tmp 23)),
 gv 25 (.call 31 [(.tmp 24)]),
 gv 26 (.bslice 9 1 2 (.string ⟨#[]⟩) [(0,(.tmp 19)),(1,(.tmp 25))])]
def c13r4z : List GOp:=[
 gv 27 (.app 9 1 16 (.string ⟨#[]⟩) (.tmp 11) (.tmp 26)),
 gv 3 (.mv (.tmp 27))]
def c13r5 : List GOp:=[
 gv 9 (.mv (.tmp 4)),
 gv 10 (.bin .add (.tmp 9) (.const (.int .i64 1))),
 gv 4 (.mv (.tmp 10))]
def c13l6 : DE:=.seq (.seq (.reg c13r3) (.cond (.tmp 8) (.skip) (.exit 0))) (.seq (.block 1 (.sfx false false false true c13r4 c13r4z)) (.reg c13r5))
def c13r7 : List GOp:=[
 gv 28 (.mv (.tmp 3)),
 gv 2 (.mv (.tmp 28))]
def c13 : EFn:=⟨29,.seq (.reg c13r0) (.seq (.reg c13r1) (.join (.seq (.reg c13r2) (.block 0 (.loop c13l6))) (.seq (.reg c13r7) (.ret)))),[.tmp 2]⟩
theorem c13_ok : compF Tryz.prog 13=some c13.er:=by kernel_rfl
set_option maxHeartbeats 4000000 in
theorem law32_secrets_R {P:Program}(hP:P=Tryz.prog)(l:(List Op))(r:(List ByteArray))(h:law32_secrets_g l=some r):Fn1 P 13 [vLOp l] (vLS r):=by
 refine .walkE (hP▸c13_ok) fun K hK=>?_;unfold law32_secrets_g at h;cbv;refine .g h (fun (out1:(List ByteArray))=>rp 3 .top++[.hd 0]++rp 25 .top) (fun out1=>[.row 9 1 (W eS out1)]) (fun y hm Kn1 hKn1=>?_) fun t h=>?_
 ·have h:=hm;clear hm;cbv;refine .g h (fun ((out2,i3):(List ByteArray)×Int)=>[.d (.sl (W eOp l)),.top,.top,.hd 0,oi i3]++rp 24 .top) (fun (out2,i3)=>[.row 9 1 (W eS out2)]) (.nilr 3 9 1 rfl (.nz (.mtE [0] ?_))) fun s x h hr2 Kn2 hKn2=>?_
  ·(cbv;repeat (refine⟨an_,?_⟩;cbv))
  unfold law32_secrets_l2 at h;obtain⟨out2,i3⟩:=s;cbv;refine brkG h ?_ ?_<;>intro h
  ·cbv;refine .g h (fun _=>rfl) fun x4 h=>?_;cbv;refine .g h (fun v hv=>ref02_Decimal_R hP _ v hv) aw_ rfl (fun _=>rfl) fun v5 h=>?_;cbv;refine .g h fun h=>?_;cbv;refine .g h (fun v hv=>law32_secret_R hP _ v hv) aw_ rfl (fun _=>rfl) fun v6 h=>?_;cbv;refine .g h (fun _=>rfl) fun x7 h=>?_;cbv;refine .g h (fun v hv=>law32_secret_R hP _ v hv) aw_ rfl (fun _=>rfl) fun v8 h=>?_;cbv;refine .g (e:=eS) h (W_cons aw_ (W_cons aw_ (W_nil' _))) fun l9 h=>?_;cbv;refine .g h rfl (fun _=>rfl) (by decide) fun out10 h=>?_;cbv;obtain rfl:=oj h;refine hKn2 _ _ _ rfl (.nz (.mtE [1] ?_));(cbv;repeat (refine⟨an_,?_⟩;cbv))
  ·cbv;obtain rfl:=oj h;obtain rfl:=hr2 _ rfl;refine hKn1 _ _ _ rfl (.nz (.mtE [0] ?_));(cbv;repeat (refine⟨an_,?_⟩;cbv))
 obtain⟨out1,rfl⟩:=ez t;cbv;obtain rfl:=oj h;exact hK _ _ aw_
end Go.SX.Rg
namespace Go.SX.Rg
open Go Go.SX Go.Proofs
set_option maxRecDepth 100000
noncomputable def registry_Registry_Title_b (show0:Int)(places0:Int)(titles0:(List (Int×Entry)))(at0:(List (Int×Int)))(serial:Int):Option (Title×Int×Int) :=
 optG (mlook titles0 serial) (fun y1 =>
 some (y1.Title,y1.gone,0)
 ) (
 some ((Title.mk 0 0 0 (⟨#[]⟩) []),0,11)
 )
end Go.SX.Rg
namespace Go.SX.Rg
open Go Go.SX Go.Proofs
set_option maxRecDepth 100000
def c14r0 : List GOp:=[
 gv 4 (.alloc 35 (.agg #[oz,oz,oz,(.string ⟨#[]⟩),(.slice none 0 0)])),
 gv 5 (.mv (.const (.int .i64 0))),
 gv 6 (.mv (.const (.int .i64 0)))]
def c14r1 : List GOp:=[
 gv 9 (.mv (.tmp 0)),
 gv 10 (.pnil false (.tmp 9))]
def c14r2 : List GOp:=[
 gv 11 (.build (.agg #[oz,oz,oz,(.string ⟨#[]⟩),(.slice none 0 0)]) []),
 ⟨none,.store 5 (.tmp 4) (.tmp 11),none⟩,
 gv 5 (.mv (.const (.int .i64 0))),
 gv 6 (.mv (.const (.int .i64 1)))]
def c14r3 : List GOp:=[
 gv 13 (.mv (.tmp 0)),
 gv 14 (.nilck (.tmp 13)),
 gv 15 (.fadd 2 (.tmp 14)),
 gv 16 (.load 1 false (.tmp 15)),
 gv 17 (.mv (.tmp 1)),
 gv 18 (.mget (.int .i64) true true (.agg #[oz,oz,oz,(.string ⟨#[]⟩),(.slice none 0 0),oz]) (.tmp 16) (.tmp 17)),
 gv 12 (.mv (.tmp 18)),
 gv 19 (.ext (.tmp 12) 0),
 gv 20 (.ext (.tmp 12) 1),
 gv 7 (.alloc 78 (.agg #[oz,oz,oz,(.string ⟨#[]⟩),(.slice none 0 0),oz])),
 ⟨none,.store 6 (.tmp 7) (.tmp 19),none⟩,
 gv 8 (.mv (.tmp 20))]
def c14r4 : List GOp:=[
 gv 21 (.mv (.tmp 8)),
 gv 22 (.un .not (.tmp 21))]
def c14r5 : List GOp:=[
 gv 23 (.build (.agg #[oz,oz,oz,(.string ⟨#[]⟩),(.slice none 0 0)]) []),
 ⟨none,.store 5 (.tmp 4) (.tmp 23),none⟩,
 gv 5 (.mv (.const (.int .i64 0))),
 gv 6 (.mv (.const (.int .i64 11)))]
def c14r6 : List GOp:=[
 gv 24 (.fadd 0 (.tmp 7)),
 gv 25 (.load 5 true (.tmp 24)),
 gv 26 (.fadd 5 (.tmp 7)),
 gv 27 (.load 1 false (.tmp 26)),
 ⟨none,.store 5 (.tmp 4) (.tmp 25),none⟩,
 gv 5 (.mv (.tmp 27)),
 gv 6 (.mv (.const (.int .i64 0)))]
def c14 : EFn:=⟨28,.seq (.reg c14r0) (.seq (.seq (.reg c14r1) (.cond (.tmp 10) (.seq (.reg c14r2) (.ret)) (.skip))) (.seq (.reg c14r3) (.seq (.seq (.reg c14r4) (.cond (.tmp 22) (.seq (.reg c14r5) (.ret)) (.skip))) (.seq (.hys true true true 5 c14r6) (.ret))))),[.cell 4 5 true,.tmp 5,.tmp 6]⟩
theorem c14_ok : compF Tryz.prog 14=some c14.er:=by kernel_rfl
set_option maxHeartbeats 8000000 in
theorem registry_Registry_Title_R {P:Program}(hP:P=Tryz.prog)(show0:Int)(places0:Int)(titles0:(List (Int×Entry)))(at0:(List (Int×Int)))(serial:Int)(r:Title×Int×Int)(h:registry_Registry_Title_b show0 places0 titles0 at0 serial=some r):SCall P 14 [.cells [oi show0,oi places0,.hd 1,.hd 2] 74,.mp (.int .i64) true (WM (Value.int .i64) eEntry titles0),.mp (.int .i64) false (WM (Value.int .i64) eIi64 at0)] [.ptr 0 0,oi serial] (fun sv own'=>sv=.tup [.agg [oi r.1.Serial,oi r.1.Show,oi r.1.Place,.d (.val (.string r.1.First)),.d (.sl (W eTransfer r.1.Chain))],oi r.2.1,oi r.2.2]∧own'=[.cells [oi show0,oi places0,.hd 1,.hd 2] 74,.mp (.int .i64) true (WM (Value.int .i64) eEntry titles0),.mp (.int .i64) false (WM (Value.int .i64) eIi64 at0)]):=by
 refine .walkF 3 rfl (Nat.le_of_ble_eq_true rfl) (hP▸c14_ok) fun K hK=>?_;unfold registry_Registry_Title_b at h;cbv;refine .oi (e:=eEntry) h (by first | rfl | exact WM_nil' _ _) (fun y1 h=>?_) (fun h=>?_)
 ·cbv;refine brkF io_nt ?_;cbv;refine .g [3] ?_;cbv;obtain rfl:=oj h;refine hK _ _ [] [0,1,2] ?_;(cbv;repeat (refine⟨an_,?_⟩;cbv))
 ·cbv;refine brkT io_nf ?_;cbv;obtain rfl:=oj h;refine hK _ _ [] [0,1,2] ?_;(cbv;repeat (refine⟨an_,?_⟩;cbv))
end Go.SX.Rg
namespace Go.SX.Rg
open Go Go.SX Go.Proofs
set_option maxRecDepth 100000
noncomputable def math_bits_Mul64_g (x_:Int)(y_:Int):Option (Int×Int) :=
 some ((io.ar .add .u64 (io.ar .add .u64 (io.ar .mul .u64 (io.shr .u64 x_ (.ofNat 32)) (io.shr .u64 y_ (.ofNat 32))) (io.shr .u64 (io.ar .add .u64 (io.ar .mul .u64 (io.shr .u64 x_ (.ofNat 32)) (io.ar .and .u64 y_ 4294967295)) (io.shr .u64 (io.ar .mul .u64 (io.ar .and .u64 x_ 4294967295) (io.ar .and .u64 y_ 4294967295)) (.ofNat 32))) (.ofNat 32))) (io.shr .u64 (io.ar .add .u64 (io.ar .and .u64 (io.ar .add .u64 (io.ar .mul .u64 (io.shr .u64 x_ (.ofNat 32)) (io.ar .and .u64 y_ 4294967295)) (io.shr .u64 (io.ar .mul .u64 (io.ar .and .u64 x_ 4294967295) (io.ar .and .u64 y_ 4294967295)) (.ofNat 32))) 4294967295) (io.ar .mul .u64 (io.ar .and .u64 x_ 4294967295) (io.shr .u64 y_ (.ofNat 32)))) (.ofNat 32))),(io.ar .mul .u64 x_ y_))
end Go.SX.Rg
namespace Go.SX.Rg
open Go Go.SX Go.Proofs
set_option maxRecDepth 100000
def c108r0 : List GOp:=[
 gv 4 (.mv (.const (.int .u64 0))),
 gv 5 (.mv (.const (.int .u64 0)))]
def c108r1 : List GOp:=[
 gv 14 (.mv (.tmp 0)),
 gv 15 (.bin .and (.tmp 14) (.const (.int .u64 4294967295))),
 gv 6 (.mv (.tmp 15))]
def c108r2 : List GOp:=[
 gv 16 (.mv (.tmp 0)),
 gv 17 (.bin .shr (.tmp 16) (.const (.int .u64 32))),
 gv 7 (.mv (.tmp 17))]
def c108r3 : List GOp:=[
 gv 18 (.mv (.tmp 1)),
 gv 19 (.bin .and (.tmp 18) (.const (.int .u64 4294967295))),
 gv 8 (.mv (.tmp 19))]
def c108r4 : List GOp:=[
 gv 20 (.mv (.tmp 1)),
 gv 21 (.bin .shr (.tmp 20) (.const (.int .u64 32))),
 gv 9 (.mv (.tmp 21))]
def c108r5 : List GOp:=[
 gv 22 (.mv (.tmp 6)),
 gv 23 (.mv (.tmp 8)),
 gv 24 (.bin .mul (.tmp 22) (.tmp 23)),
 gv 10 (.mv (.tmp 24))]
def c108r6 : List GOp:=[
 gv 25 (.mv (.tmp 7)),
 gv 26 (.mv (.tmp 8)),
 gv 27 (.bin .mul (.tmp 25) (.tmp 26)),
 gv 28 (.mv (.tmp 10)),
 gv 29 (.bin .shr (.tmp 28) (.const (.int .u64 32))),
 gv 30 (.bin .add (.tmp 27) (.tmp 29)),
 gv 11 (.mv (.tmp 30))]
def c108r7 : List GOp:=[
 gv 31 (.mv (.tmp 11)),
 gv 32 (.bin .and (.tmp 31) (.const (.int .u64 4294967295))),
 gv 12 (.mv (.tmp 32))]
def c108r8 : List GOp:=[
 gv 33 (.mv (.tmp 11)),
 gv 34 (.bin .shr (.tmp 33) (.const (.int .u64 32))),
 gv 13 (.mv (.tmp 34))]
def c108r9 : List GOp:=[
 gv 35 (.mv (.tmp 12)),
 gv 36 (.mv (.tmp 6)),
 gv 37 (.mv (.tmp 9)),
 gv 38 (.bin .mul (.tmp 36) (.tmp 37)),
 gv 39 (.bin .add (.tmp 35) (.tmp 38)),
 gv 12 (.mv (.tmp 39))]
def c108r10 : List GOp:=[
 gv 40 (.mv (.tmp 7)),
 gv 41 (.mv (.tmp 9)),
 gv 42 (.bin .mul (.tmp 40) (.tmp 41)),
 gv 43 (.mv (.tmp 13)),
 gv 44 (.bin .add (.tmp 42) (.tmp 43)),
 gv 45 (.mv (.tmp 12)),
 gv 46 (.bin .shr (.tmp 45) (.const (.int .u64 32))),
 gv 47 (.bin .add (.tmp 44) (.tmp 46)),
 gv 4 (.mv (.tmp 47))]
def c108r11 : List GOp:=[
 gv 48 (.mv (.tmp 0)),
 gv 49 (.mv (.tmp 1)),
 gv 50 (.bin .mul (.tmp 48) (.tmp 49)),
 gv 5 (.mv (.tmp 50))]
def c108 : EFn:=⟨51,.seq (.reg c108r0) (.seq (.reg c108r1) (.seq (.reg c108r2) (.seq (.reg c108r3) (.seq (.reg c108r4) (.seq (.reg c108r5) (.seq (.reg c108r6) (.seq (.reg c108r7) (.seq (.reg c108r8) (.seq (.reg c108r9) (.seq (.reg c108r10) (.seq (.reg c108r11) (.ret)))))))))))),[.tmp 4,.tmp 5]⟩
theorem c108_ok : compF Tryz.prog 108=some c108.er:=by kernel_rfl
set_option maxHeartbeats 4000000 in
theorem math_bits_Mul64_R {P:Program}(hP:P=Tryz.prog)(x_:Int)(y_:Int)(r:Int×Int)(h:math_bits_Mul64_g x_ y_=some r):Fn1 P 108 [vIu64 x_,vIu64 y_] (.tup [vIu64 r.1,vIu64 r.2]):=by
 refine .walkE (hP▸c108_ok) fun K hK=>?_;unfold math_bits_Mul64_g at h;cbv;obtain rfl:=oj h;exact hK _ _ aw_
end Go.SX.Rg
namespace Go.SX.Rg
open Go Go.SX Go.Proofs
set_option maxRecDepth 100000
noncomputable def sign_Public_c1_g (p0:Int):Option (Int) :=
 some 15
end Go.SX.Rg
namespace Go.SX.Rg
open Go Go.SX Go.Proofs
set_option maxRecDepth 100000
def c56r0 : List GOp:=[
 gv 2 (.mv (.const (.int .i64 0)))]
def c56r1 : List GOp:=[
 gv 2 (.mv (.const (.int .i64 15)))]
def c56 : EFn:=⟨3,.seq (.reg c56r0) (.seq (.reg c56r1) (.ret)),[.tmp 2]⟩
theorem c56_ok : compF Tryz.prog 56=some c56.er:=by kernel_rfl
set_option maxHeartbeats 4000000 in
theorem sign_Public_c1_R {P:Program}(hP:P=Tryz.prog)(p0:Int)(r:Int)(h:sign_Public_c1_g p0=some r):Fn1 P 56 [vIi64 p0] (vIi64 r):=by
 refine .walkE (hP▸c56_ok) fun K hK=>?_;unfold sign_Public_c1_g at h;cbv;obtain rfl:=oj h;exact hK _ _ aw_
end Go.SX.Rg
namespace Go.SX.Rg
open Go Go.SX Go.Proofs
set_option maxRecDepth 100000
noncomputable def title_Owner_g (t_:Title):Option (ByteArray) :=
 bif (io.lt 0 (io.len (W eTransfer t_.Chain))) then (
 Option.bind (idxG t_.Chain (io.ar .sub .i64 (io.len (W eTransfer t_.Chain)) 1)) fun x1 =>
 some x1.To
 ) else (
 some t_.First
 )
end Go.SX.Rg
namespace Go.SX.Rg
open Go Go.SX Go.Proofs
set_option maxRecDepth 100000
noncomputable def slices_CloneW_g (s_:(List Transfer)):Option ((List Transfer)) :=
 nilQ s_ fun b1 =>
 bif b1 then (
 some []
 ) else (
 Option.bind (some ([]:List Transfer)) fun l2 =>
 Option.bind (appG l2 s_) fun l3 =>
 some l3
 )
end Go.SX.Rg
namespace Go.SX.Rg
open Go Go.SX Go.Proofs
set_option maxRecDepth 100000
noncomputable def slices_Clone_2_g (s_:(List ByteArray)):Option ((List ByteArray)) :=
 nilQ s_ fun b1 =>
 bif b1 then (
 some []
 ) else (
 Option.bind (some ([]:List ByteArray)) fun l2 =>
 Option.bind (appG l2 s_) fun l3 =>
 some l3
 )
end Go.SX.Rg
namespace Go.SX.Rg
open Go Go.SX Go.Proofs
set_option maxRecDepth 100000
noncomputable def title_used_l2 (t_:Title)(key:ByteArray):Int→Option ((Int) ⊕ ((Unit) ⊕ (Bool)))
 | v1 =>
 bif (io.lt v1 (io.len (W eTransfer t_.Chain))) then (
 Option.bind (
 Option.bind (idxG t_.Chain v1) fun x3 =>
 some (io.seq x3.To key)
 ) fun v2 =>
 bif v2 then (
 some (.inr (.inr (io.le 0 v1)))
 ) else (
 some (.inl (io.ar .add .i64 v1 1))
 )
 ) else (
 some (.inr (.inl ()))
 )
noncomputable def title_used_g (t_:Title)(key:ByteArray):Option (Bool) :=
 bif (io.seq t_.First key) then (
 some true
 ) else (
 orR (
 whileG (title_used_l2 t_ key) 0
 ) fun _ =>
 some (io.le 0 (-1))
 )
end Go.SX.Rg
namespace Go.SX.Rg
open Go Go.SX Go.Proofs
set_option maxRecDepth 100000
def c98r0 : List GOp:=[
 gv 4 (.mv (.const (.bool false)))]
def c98r1 : List GOp:=[
 gv 5 (.mv (.tmp 0)),
 gv 6 (.mv (.tmp 1)),
 gv 7 (.call 122 [(.tmp 5),(.tmp 6)]),
 gv 8 (.bin .geq (.tmp 7) (.const (.int .i64 0))),
 gv 4 (.mv (.tmp 8))]
def c98 : EFn:=⟨9,.seq (.reg c98r0) (.seq (.reg c98r1) (.ret)),[.tmp 4]⟩
theorem c98_ok : compF Tryz.prog 98=some c98.er:=by kernel_rfl
def c122r0 : List GOp:=[
 gv 4 (.mv (.const (.int .i64 0)))]
def c122r1 : List GOp:=[
 gv 6 (.mv (.tmp 0)),
 gv 7 (.len false (.tmp 6)),
 gv 8 (.mv (.const (.int .i64 0)))]
def c122r2 : List GOp:=[
 gv 9 (.bin .lss (.tmp 8) (.tmp 7))]
def c122r3 : List GOp:=[
 gv 10 (.mv (.tmp 8)),
 gv 5 (.mv (.tmp 10))]
def c122r4 : List GOp:=[
 gv 11 (.mv (.tmp 1)),
 gv 12 (.mv (.tmp 0)),
 gv 13 (.mv (.tmp 5)),
 gv 14 (.idxA 2 (.tmp 12) (.tmp 13)),
 gv 15 (.load 2 true (.tmp 14)),
 gv 16 (.callv (.tmp 11) [(.tmp 15)])]
def c122r5 : List GOp:=[
 gv 17 (.mv (.tmp 5)),
 gv 4 (.mv (.tmp 17))]
def c122r6 : List GOp:=[
 gv 18 (.bin .add (.tmp 8) (.const (.int .i64 1))),
 gv 8 (.mv (.tmp 18))]
def c122l7 : DE:=.seq (.reg c122r2) (.seq (.cond (.tmp 9) (.skip) (.exit 0)) (.seq (.block 1 (.seq (.reg c122r3) (.join (.reg c122r4) (.cond (.tmp 16) (.seq (.reg c122r5) (.ret)) (.skip))))) (.reg c122r6)))
def c122r8 : List GOp:=[
 gv 4 (.mv (.const (.int .i64 (-1))))]
def c122 : EFn:=⟨19,.seq (.reg c122r0) (.join (.seq (.reg c122r1) (.block 0 (.loop c122l7))) (.seq (.reg c122r8) (.ret))),[.tmp 4]⟩
theorem c122_ok : compF Tryz.prog 122=some c122.er:=by kernel_rfl
def c99r0 : List GOp:=[
 gv 2 (.box 46 (.tmp 0)),
 gv 3 (.mv (.const (.bool false)))]
def c99r1 : List GOp:=[
 gv 4 (.fadd 0 (.tmp 2)),
 gv 5 (.load 1 false (.tmp 4)),
 gv 6 (.load 1 false (.tmp 1)),
 gv 7 (.bin .eql (.tmp 5) (.tmp 6)),
 gv 3 (.mv (.tmp 7))]
def c99 : EFn:=⟨8,.seq (.reg c99r0) (.seq (.reg c99r1) (.ret)),[.tmp 3]⟩
theorem c99_ok : compF Tryz.prog 99=some c99.er:=by kernel_rfl
def c58r0 : List GOp:=[
 gv 2 (.box 35 (.tmp 0)),
 gv 3 (.box 9 (.tmp 1)),
 gv 4 (.mv (.const (.bool false)))]
def c58r1 : List GOp:=[
 gv 5 (.fadd 3 (.tmp 2)),
 gv 6 (.load 1 false (.tmp 5)),
 gv 7 (.load 1 false (.tmp 3)),
 gv 8 (.bin .eql (.tmp 6) (.tmp 7)),
 gv 9 (.mv (.tmp 8)),
 gw 10 9 false (.fadd 4 (.tmp 2)),
 gw 11 9 false (.load 1 false (.tmp 10)),
 gw 12 9 false (.mkfn (.func 99) [] [(.tmp 3)]),
 gw 13 9 false (.call 98 [(.tmp 11),(.tmp 12)]),
 gv 14 (.pick (.tmp 9) (.const (.bool true)) (.tmp 13)),
 gv 4 (.mv (.tmp 14))]
def c58 : EFn:=⟨15,.seq (.reg c58r0) (.seq (.reg c58r1) (.ret)),[.tmp 4]⟩
theorem c58_ok : compF Tryz.prog 58=some c58.er:=by kernel_rfl
set_option maxHeartbeats 4000000 in
theorem title_used_R {P:Program}(hP:P=Tryz.prog)(t_:Title)(key:ByteArray)(r:Bool)(h:title_used_g t_ key=some r):Fn1 P 58 [vTitle t_,vS key] (vB r):=by
 refine .walkE (hP▸c58_ok) fun K hK=>?_;unfold title_used_g at h;cbv;refine brkG h ?_ ?_<;>intro h
 ·cbv;obtain rfl:=oj h;exact hK _ _ aw_
 ·cbv;refine .inl (hP▸c98_ok) ?_;cbv;refine .inl (hP▸c122_ok) ?_;cbv;refine .ga h (fun (_:Unit)=>rp 19 .top) (fun _=>[.cells [oi t_.Serial,oi t_.Show,oi t_.Place,.d (.val (.string t_.First)),.d (.sl (W eTransfer t_.Chain))] 35,.cells [.d (.val (.string key))] 9]) (fun y hm hr1 Kn1 hKn1=>?_) fun t h=>?_
  ·have h:=hm;clear hm;cbv;refine .g h (fun (v1:Int)=>[.d (.sl (W eTransfer t_.Chain)),.clo (.func 99) [] [.ptr 1 0]]++rp 5 .top++[oi (io.len (W eTransfer t_.Chain)),oi v1]++rp 10 .top) (fun v1=>[.cells [oi t_.Serial,oi t_.Show,oi t_.Place,.d (.val (.string t_.First)),.d (.sl (W eTransfer t_.Chain))] 35,.cells [.d (.val (.string key))] 9]) (.nz (.mtE [0,1] ?_)) fun s x h hr2 Kn2 hKn2=>?_
   ·(cbv;repeat (refine⟨an_,?_⟩;cbv))
   unfold title_used_l2 at h;obtain⟨v1,rfl⟩:=ez s;cbv;refine brkG h ?_ ?_<;>intro h
   ·cbv;refine .g h (fun (v2:Bool)=>[.d (.sl (W eTransfer t_.Chain)),.clo (.func 99) [] [.ptr 1 0]]++rp 3 .top++[oi v1,.top,oi (io.len (W eTransfer t_.Chain)),oi v1]++rp 7 .top++[ob v2,.top,.top]) (fun v2=>[.cells [oi t_.Serial,oi t_.Show,oi t_.Place,.d (.val (.string t_.First)),.d (.sl (W eTransfer t_.Chain))] 35,.cells [.d (.val (.string key))] 9]) (fun y hm Kn3 hKn3=>?_) fun t h=>?_
    ·have h:=hm;clear hm;cbv;refine .g h (fun _=>rfl) fun x3 h=>?_;cbv;refine .inl (hP▸c99_ok) ?_;cbv;obtain rfl:=oj h;refine hKn3 _ _ _ rfl (.nz (.mtE [0,1] ?_));(cbv;repeat (refine⟨an_,?_⟩;cbv))
    obtain⟨v2,rfl⟩:=ez t;cbv;refine brkG h ?_ ?_<;>intro h
    ·cbv;obtain rfl:=oj h;obtain rfl:=hr2 _ rfl;obtain rfl:=hr1 _ rfl;exact hK _ _ aw_
    ·cbv;obtain rfl:=oj h;refine hKn2 _ _ _ rfl (.nz (.mtE [0,1] ?_));(cbv;repeat (refine⟨an_,?_⟩;cbv))
   ·cbv;obtain rfl:=oj h;obtain rfl:=hr2 _ rfl;refine hKn1 _ _ _ rfl (.nz (.mtE [0,1] ?_));(cbv;repeat (refine⟨an_,?_⟩;cbv))
  cbv;obtain rfl:=oj h;exact hK _ _ aw_
end Go.SX.Rg
namespace Go.SX.Rg
open Go Go.SX Go.Proofs
set_option maxRecDepth 100000
def c35r0 : List GOp:=[
 gv 1 (.box 35 (.tmp 0)),
 gv 2 (.mv (.const (.string ⟨#[]⟩)))]
def c35r1 : List GOp:=[
 gv 4 (.fadd 4 (.tmp 1)),
 gv 5 (.load 1 false (.tmp 4)),
 gv 6 (.len false (.tmp 5)),
 gv 3 (.mv (.tmp 6))]
def c35r2 : List GOp:=[
 gv 7 (.mv (.tmp 3)),
 gv 8 (.bin .gtr (.tmp 7) (.const (.int .i64 0)))]
def c35r3 : List GOp:=[
 gv 9 (.fadd 4 (.tmp 1)),
 gv 10 (.load 1 false (.tmp 9)),
 gv 11 (.mv (.tmp 3)),
 gv 12 (.bin .sub (.tmp 11) (.const (.int .i64 1))),
 gv 13 (.idxA 2 (.tmp 10) (.tmp 12)),
 gv 14 (.fadd 0 (.tmp 13)),
 gv 15 (.load 1 false (.tmp 14)),
 gv 2 (.mv (.tmp 15))]
def c35r4 : List GOp:=[
 gv 16 (.fadd 3 (.tmp 1)),
 gv 17 (.load 1 false (.tmp 16)),
 gv 2 (.mv (.tmp 17))]
def c35 : EFn:=⟨18,.seq (.reg c35r0) (.seq (.seq (.reg c35r1) (.seq (.reg c35r2) (.cond (.tmp 8) (.seq (.reg c35r3) (.ret)) (.skip)))) (.seq (.reg c35r4) (.ret))),[.tmp 2]⟩
theorem c35_ok : compF Tryz.prog 35=some c35.er:=by kernel_rfl
set_option maxHeartbeats 4000000 in
theorem title_Owner_R {P:Program}(hP:P=Tryz.prog)(t_:Title)(r:ByteArray)(h:title_Owner_g t_=some r):Fn1 P 35 [vTitle t_] (vS r):=by
 refine .walkE (hP▸c35_ok) fun K hK=>?_;unfold title_Owner_g at h;cbv;refine brkG h ?_ ?_<;>intro h
 ·cbv;refine .g h (fun _=>rfl) fun x1 h=>?_;cbv;obtain rfl:=oj h;exact hK _ _ aw_
 ·cbv;obtain rfl:=oj h;exact hK _ _ aw_
end Go.SX.Rg
namespace Go.SX.Rg
open Go Go.SX Go.Proofs
set_option maxRecDepth 100000
noncomputable def registry_Registry_Move_b (show0:Int)(places0:Int)(titles0:(List (Int×Entry)))(at0:(List (Int×Int)))(serial:Int)(place:Int):Option (Int×(List (Int×Entry))×(List (Int×Int))) :=
 Option.bind (
 bif (io.lt place (-1)) then (
 some true
 ) else (
 some (io.le places0 place)
 )
 ) fun v1 =>
 bif v1 then (
 some (1,titles0,at0)
 ) else (
 optG (mlook titles0 serial) (fun y2 =>
 bif (io.lt 0 y2.gone) then (
 some (27,titles0,at0)
 ) else (
 Option.bind (
 Option.bind (some (mlookD at0 place 0)) fun y5 =>
 Option.bind (
 bif (io.not (io.eq y5 0)) then (
 some (io.not (io.eq y5 serial))
 ) else (
 some false
 )
 ) fun v6 =>
 bif v6 then (
 some (y2.Title.Place,16)
 ) else (
 some (place,0)
 )
 ) fun (Place3,e4) =>
 bif (io.not (io.eq e4 0)) then (
 some (e4,titles0,at0)
 ) else (
 Option.bind (some (mputG titles0 serial (Entry.mk (Title.mk y2.Title.Serial y2.Title.Show Place3 y2.Title.First y2.Title.Chain) y2.gone))) fun m7 =>
 Option.bind (
 bif (io.le 0 y2.Title.Place) then (
 Option.bind (some (mdelG at0 y2.Title.Place)) fun m9 =>
 some m9
 ) else (
 some at0
 )
 ) fun own8 =>
 Option.bind (
 bif (io.le 0 Place3) then (
 some (io.eq y2.gone 0)
 ) else (
 some false
 )
 ) fun v10 =>
 bif v10 then (
 Option.bind (some (mputG own8 Place3 serial)) fun m11 =>
 some (0,m7,m11)
 ) else (
 some (0,m7,own8)
 )
 )
 )
 ) (
 some (11,titles0,at0)
 )
 )
end Go.SX.Rg
namespace Go.SX.Rg
open Go Go.SX Go.Proofs
set_option maxRecDepth 100000
noncomputable def registry_Registry_Revoke_b (show0:Int)(places0:Int)(titles0:(List (Int×Entry)))(at0:(List (Int×Int)))(serial:Int)(now:Int):Option (Int×(List (Int×Entry))×(List (Int×Int))) :=
 Option.bind (
 bif (io.lt now 1) then (
 some true
 ) else (
 some (io.lt 1000000000 now)
 )
 ) fun v1 =>
 bif v1 then (
 some (1,titles0,at0)
 ) else (
 optG (mlook titles0 serial) (fun y2 =>
 bif (io.lt 0 y2.gone) then (
 some (27,titles0,at0)
 ) else (
 Option.bind (
 some ()
 ) fun _ =>
 bif (io.not (io.eq 0 0)) then (
 some (0,titles0,at0)
 ) else (
 Option.bind (some (mputG titles0 serial (Entry.mk y2.Title now))) fun m3 =>
 Option.bind (
 bif (io.le 0 y2.Title.Place) then (
 Option.bind (some (mdelG at0 y2.Title.Place)) fun m5 =>
 some m5
 ) else (
 some at0
 )
 ) fun own4 =>
 Option.bind (
 bif (io.le 0 y2.Title.Place) then (
 some (io.eq now 0)
 ) else (
 some false
 )
 ) fun v6 =>
 bif v6 then (
 Option.bind (some (mputG own4 y2.Title.Place serial)) fun m7 =>
 some (0,m3,m7)
 ) else (
 some (0,m3,own4)
 )
 )
 )
 ) (
 some (11,titles0,at0)
 )
 )
noncomputable def registry_Registry_Revoke_nil_g (serial:Int)(now:Int):Option (Int) :=
 Option.bind (
 bif (io.lt now 1) then (
 some true
 ) else (
 some (io.lt 1000000000 now)
 )
 ) fun v1 =>
 bif v1 then (
 some 1
 ) else (
 some 1
 )
end Go.SX.Rg
namespace Go.SX.Rg
open Go Go.SX Go.Proofs
set_option maxRecDepth 100000
def c60r0 : List GOp:=[
 gv 6 (.mv (.const (.int .i64 0)))]
def c60r1 : List GOp:=[
 gv 11 (.mv (.tmp 0)),
 gv 12 (.pnil false (.tmp 11))]
def c60r2 : List GOp:=[
 gv 6 (.mv (.const (.int .i64 1)))]
def c60r3 : List GOp:=[
 gv 14 (.mv (.tmp 0)),
 gv 15 (.nilck (.tmp 14)),
 gv 16 (.fadd 2 (.tmp 15)),
 gv 17 (.load 1 false (.tmp 16)),
 gv 18 (.mv (.tmp 1)),
 gv 19 (.mget (.int .i64) true true (.agg #[oz,oz,oz,(.string ⟨#[]⟩),(.slice none 0 0),oz]) (.tmp 17) (.tmp 18)),
 gv 13 (.mv (.tmp 19)),
 gv 20 (.ext (.tmp 13) 0),
 gv 21 (.ext (.tmp 13) 1),
 gv 7 (.alloc 78 (.agg #[oz,oz,oz,(.string ⟨#[]⟩),(.slice none 0 0),oz])),
 ⟨none,.store 6 (.tmp 7) (.tmp 20),none⟩,
 gv 8 (.mv (.tmp 21))]
def c60r4 : List GOp:=[
 gv 23 (.mv (.tmp 8)),
 gv 24 (.un .not (.tmp 23)),
 gv 22 (.mv (.tmp 24))]
def c60r5 : List GOp:=[
 gv 6 (.mv (.const (.int .i64 11)))]
def c60r6 : List GOp:=[
 gv 26 (.fadd 5 (.tmp 7)),
 gv 27 (.load 1 false (.tmp 26)),
 gv 28 (.bin .gtr (.tmp 27) (.const (.int .i64 0))),
 gv 25 (.mv (.tmp 28))]
def c60r7 : List GOp:=[
 gv 6 (.mv (.const (.int .i64 27)))]
def c60r8 : List GOp:=[
 gv 29 (.fadd 0 (.tmp 7)),
 gv 30 (.fadd 2 (.tmp 29)),
 gv 31 (.load 1 false (.tmp 30)),
 gv 9 (.mv (.tmp 31))]
def c60r9 : List GOp:=[
 gv 32 (.mv (.tmp 2)),
 gv 33 (.callv (.tmp 32) [(.tmp 7)]),
 gv 10 (.mv (.tmp 33))]
def c60r10 : List GOp:=[
 gv 34 (.mv (.tmp 10)),
 gv 35 (.bin .neq (.tmp 34) (.const (.int .i64 0)))]
def c60r11 : List GOp:=[
 gv 36 (.mv (.tmp 10)),
 gv 6 (.mv (.tmp 36))]
def c60r12 : List GOp:=[
 gv 37 (.mv (.tmp 0)),
 gv 38 (.nilck (.tmp 37)),
 gv 39 (.fadd 2 (.tmp 38)),
 gv 40 (.load 1 false (.tmp 39)),
 gv 41 (.mv (.tmp 1)),
 gv 42 (.load 6 true (.tmp 7))]
def c60r12z : List GOp:=[
 ⟨none,.mset (.int .i64) true (.tmp 40) (.tmp 41) (.tmp 42),none⟩]
def c60r13 : List GOp:=[
 gv 43 (.mv (.tmp 9)),
 gv 44 (.bin .geq (.tmp 43) (.const (.int .i64 0)))]
def c60r14 : List GOp:=[
 gv 45 (.mv (.tmp 0)),
 gv 46 (.nilck (.tmp 45)),
 gv 47 (.fadd 3 (.tmp 46)),
 gv 48 (.load 1 false (.tmp 47)),
 gv 49 (.mv (.tmp 9)),
 ⟨none,.mdel (.int .i64) (.tmp 48) (.tmp 49),none⟩]
def c60r15 : List GOp:=[
 gv 50 (.fadd 0 (.tmp 7)),
 gv 51 (.fadd 2 (.tmp 50)),
 gv 52 (.load 1 false (.tmp 51)),
 gv 53 (.bin .geq (.tmp 52) (.const (.int .i64 0))),
 gv 54 (.mv (.tmp 53)),
 gw 55 54 true (.fadd 5 (.tmp 7)),
 gw 56 54 true (.load 1 false (.tmp 55)),
 gw 57 54 true (.bin .eql (.tmp 56) (.const (.int .i64 0))),
 gv 58 (.pick (.tmp 54) (.tmp 57) (.const (.bool false)))]
def c60r16 : List GOp:=[
 gv 59 (.mv (.tmp 0)),
 gv 60 (.nilck (.tmp 59)),
 gv 61 (.fadd 3 (.tmp 60)),
 gv 62 (.load 1 false (.tmp 61)),
 gv 63 (.fadd 0 (.tmp 7)),
 gv 64 (.fadd 2 (.tmp 63)),
 gv 65 (.load 1 false (.tmp 64)),
 gv 66 (.mv (.tmp 1))]
def c60r16z : List GOp:=[
 ⟨none,.mset (.int .i64) false (.tmp 62) (.tmp 65) (.tmp 66),none⟩]
def c60r17 : List GOp:=[
 gv 6 (.mv (.const (.int .i64 0)))]
def c60 : EFn:=⟨67,.seq (.reg c60r0) (.seq (.seq (.reg c60r1) (.cond (.tmp 12) (.seq (.reg c60r2) (.ret)) (.skip))) (.seq (.reg c60r3) (.seq (.block 0 (.seq (.reg c60r4) (.cond (.tmp 22) (.seq (.reg c60r5) (.ret)) (.seq (.reg c60r6) (.cond (.tmp 25) (.seq (.reg c60r7) (.ret)) (.skip)))))) (.seq (.reg c60r8) (.seq (.join (.reg c60r9) (.seq (.reg c60r10) (.cond (.tmp 35) (.seq (.reg c60r11) (.ret)) (.skip)))) (.seq (.sfx true true true true c60r12 c60r12z) (.join (.seq (.reg c60r13) (.cond (.tmp 44) (.reg c60r14) (.skip))) (.seq (.join (.reg c60r15) (.cond (.tmp 58) (.sfx true true true true c60r16 c60r16z) (.skip))) (.seq (.reg c60r17) (.ret)))))))))),[.tmp 6]⟩
theorem c60_ok : compF Tryz.prog 60=some c60.er:=by kernel_rfl
def c82r0 : List GOp:=[
 gv 3 (.mv (.const (.int .i64 0)))]
def c82r1 : List GOp:=[
 gv 4 (.mv (.tmp 0)),
 gv 5 (.load 1 false (.tmp 1)),
 gv 6 (.nilck (.tmp 4)),
 gv 7 (.fadd 5 (.tmp 6)),
 ⟨none,.store 1 (.tmp 7) (.tmp 5),none⟩]
def c82r2 : List GOp:=[
 gv 3 (.mv (.const (.int .i64 0)))]
def c82 : EFn:=⟨8,.seq (.reg c82r0) (.seq (.reg c82r1) (.seq (.reg c82r2) (.ret))),[.tmp 3]⟩
theorem c82_ok : compF Tryz.prog 82=some c82.er:=by kernel_rfl
def c45r0 : List GOp:=[
 gv 5 (.box 3 (.tmp 2)),
 gv 6 (.mv (.const (.int .i64 0)))]
def c45r1 : List GOp:=[
 gv 7 (.load 1 false (.tmp 5)),
 gv 8 (.bin .lss (.tmp 7) (.const (.int .i64 1))),
 gv 9 (.mv (.tmp 8)),
 gw 10 9 false (.load 1 false (.tmp 5)),
 gw 11 9 false (.bin .gtr (.tmp 10) (.const (.int .i64 1000000000))),
 gv 12 (.pick (.tmp 9) (.const (.bool true)) (.tmp 11))]
def c45r2 : List GOp:=[
 gv 6 (.mv (.const (.int .i64 1)))]
def c45r3 : List GOp:=[
 gv 13 (.mv (.tmp 0)),
 gv 14 (.mv (.tmp 1)),
 gv 15 (.mkfn (.func 82) [] [(.tmp 5)]),
 gv 16 (.call 60 [(.tmp 13),(.tmp 14),(.tmp 15)]),
 gv 6 (.mv (.tmp 16))]
def c45 : EFn:=⟨17,.seq (.reg c45r0) (.seq (.join (.reg c45r1) (.cond (.tmp 12) (.seq (.reg c45r2) (.ret)) (.skip))) (.seq (.reg c45r3) (.ret))),[.tmp 6]⟩
theorem c45_ok : compF Tryz.prog 45=some c45.er:=by kernel_rfl
set_option maxHeartbeats 8000000 in
theorem registry_Registry_Revoke_R {P:Program}(hP:P=Tryz.prog)(show0:Int)(places0:Int)(titles0:(List (Int×Entry)))(at0:(List (Int×Int)))(serial:Int)(now:Int)(r:Int×(List (Int×Entry))×(List (Int×Int)))(h:registry_Registry_Revoke_b show0 places0 titles0 at0 serial now=some r):SCall P 45 [.cells [oi show0,oi places0,.hd 1,.hd 2] 74,.mp (.int .i64) true (WM (Value.int .i64) eEntry titles0),.mp (.int .i64) false (WM (Value.int .i64) eIi64 at0)] [.ptr 0 0,oi serial,oi now] (fun sv own'=>sv=oi r.1∧own'=[.cells [oi show0,oi places0,.hd 1,.hd 2] 74,.mp (.int .i64) true (WM (Value.int .i64) eEntry r.2.1),.mp (.int .i64) false (WM (Value.int .i64) eIi64 r.2.2)]):=by
 refine .walkF 3 rfl (Nat.le_of_ble_eq_true rfl) (hP▸c45_ok) fun K hK=>?_;unfold registry_Registry_Revoke_b at h;cbv;refine .g h (fun (v1:Bool)=>[.ptr 0 0,oi serial]++rp 3 .top++[.ptr 3 0]++rp 6 .top++[ob v1]++rp 4 .top) (fun v1=>[.cells [oi show0,oi places0,.hd 1,.hd 2] 74,.mp (.int .i64) true (WM (Value.int .i64) eEntry titles0),.mp (.int .i64) false (WM (Value.int .i64) eIi64 at0),.cells [oi now] 3]) (fun y hm Kn1 hKn1=>?_) fun t h=>?_
 ·have h:=hm;clear hm;cbv;refine brkG h ?_ ?_<;>intro h
  ·cbv;obtain rfl:=oj h;refine hKn1 _ _ _ rfl (.nz (.mtE [0,1,2,3] ?_));(cbv;repeat (refine⟨an_,?_⟩;cbv))
  ·cbv;obtain rfl:=oj h;refine hKn1 _ _ _ rfl (.nz (.mtE [0,1,2,3] ?_));(cbv;repeat (refine⟨an_,?_⟩;cbv))
 obtain⟨v1,rfl⟩:=ez t;cbv;refine brkG h ?_ ?_<;>intro h
 ·cbv;obtain rfl:=oj h;refine hK _ _ [] [0,1,2] ?_;(cbv;repeat (refine⟨an_,?_⟩;cbv))
 ·cbv;refine .inl (hP▸c60_ok) ?_;cbv;refine .oi (e:=eEntry) h (by first | rfl | exact WM_nil' _ _) (fun y2 h=>?_) (fun h=>?_)
  ·cbv;refine brkF io_nt ?_;cbv;refine brkG h ?_ ?_<;>intro h
   ·cbv;obtain rfl:=oj h;refine hK _ _ [] [0,1,2] ?_;(cbv;repeat (refine⟨an_,?_⟩;cbv))
   ·cbv;refine .g h (fun (_:Unit)=>[.ptr 0 0,oi serial]++rp 5 .top++[.ptr 4 0,.top,oi y2.Title.Place,oi 0]++rp 56 .top) (fun _=>[.cells [oi show0,oi places0,.hd 1,.hd 2] 74,.mp (.int .i64) true (WM (Value.int .i64) eEntry titles0),.mp (.int .i64) false (WM (Value.int .i64) eIi64 at0),.cells [oi now] 3,.cells [oi y2.Title.Serial,oi y2.Title.Show,oi y2.Title.Place,.d (.val (.string y2.Title.First)),.d (.sl (W eTransfer y2.Title.Chain)),oi now] 78]) (fun y hm Kn1 hKn1=>?_) fun t h=>?_
    ·have h:=hm;clear hm;cbv;refine .inl (hP▸c82_ok) ?_;cbv;obtain rfl:=oj h;refine hKn1 _ _ _ rfl (.nz (.mtE [0,1,2,3,4] ?_));(cbv;repeat (refine⟨an_,?_⟩;cbv))
    cbv;refine brkG h ?_ ?_<;>intro h
    ·cbv;obtain rfl:=oj h;refine hK _ _ [] [0,1,2] ?_;(cbv;repeat (refine⟨an_,?_⟩;cbv))
    ·cbv;refine .gi (e:=eEntry) h (by first | rfl | exact WM_nil' _ _) aw_ fun m3 h=>?_;cbv;refine .g h (fun (own4:(List (Int×Int)))=>[.ptr 0 0,oi serial]++rp 5 .top++[.ptr 4 0]++rp 59 .top) (fun own4=>[.cells [oi show0,oi places0,.hd 1,.hd 2] 74,.mp (.int .i64) true (WM (Value.int .i64) eEntry m3),.mp (.int .i64) false (WM (Value.int .i64) eIi64 own4),.cells [oi now] 3,.cells [oi y2.Title.Serial,oi y2.Title.Show,oi y2.Title.Place,.d (.val (.string y2.Title.First)),.d (.sl (W eTransfer y2.Title.Chain)),oi now] 78]) (fun y hm Kn1 hKn1=>?_) fun t h=>?_
     ·have h:=hm;clear hm;cbv;refine brkG h ?_ ?_<;>intro h
      ·cbv;refine .gi (e:=eIi64) h rfl fun m5 h=>?_;cbv;obtain rfl:=oj h;refine hKn1 _ _ _ rfl (.nz (.mtE [0,1,2,3,4] ?_));(cbv;repeat (refine⟨an_,?_⟩;cbv))
      ·cbv;obtain rfl:=oj h;refine hKn1 _ _ _ rfl (.nz (.mtE [0,1,2,3,4] ?_));(cbv;repeat (refine⟨an_,?_⟩;cbv))
     obtain⟨own4,rfl⟩:=ez t;cbv;refine .g h (fun (v6:Bool)=>[.ptr 0 0,oi serial]++rp 5 .top++[.ptr 4 0]++rp 50 .top++[ob v6]++rp 8 .top) (fun v6=>[.cells [oi show0,oi places0,.hd 1,.hd 2] 74,.mp (.int .i64) true (WM (Value.int .i64) eEntry m3),.mp (.int .i64) false (WM (Value.int .i64) eIi64 own4),.cells [oi now] 3,.cells [oi y2.Title.Serial,oi y2.Title.Show,oi y2.Title.Place,.d (.val (.string y2.Title.First)),.d (.sl (W eTransfer y2.Title.Chain)),oi now] 78]) (fun y hm Kn1 hKn1=>?_) fun t h=>?_
     ·have h:=hm;clear hm;cbv;refine brkG h ?_ ?_<;>intro h
      ·cbv;obtain rfl:=oj h;refine hKn1 _ _ _ rfl (.nz (.mtE [0,1,2,3,4] ?_));(cbv;repeat (refine⟨an_,?_⟩;cbv))
      ·cbv;obtain rfl:=oj h;refine hKn1 _ _ _ rfl (.nz (.mtE [0,1,2,3,4] ?_));(cbv;repeat (refine⟨an_,?_⟩;cbv))
     obtain⟨v6,rfl⟩:=ez t;cbv;refine brkG h ?_ ?_<;>intro h
     ·cbv;refine .gi (e:=eIi64) h (by first | rfl | exact WM_nil' _ _) aw_ fun m7 h=>?_;cbv;obtain rfl:=oj h;refine hK _ _ [] [0,1,2] ?_;(cbv;repeat (refine⟨an_,?_⟩;cbv))
     ·cbv;obtain rfl:=oj h;refine hK _ _ [] [0,1,2] ?_;(cbv;repeat (refine⟨an_,?_⟩;cbv))
  ·cbv;refine brkT io_nf ?_;cbv;obtain rfl:=oj h;refine hK _ _ [] [0,1,2] ?_;(cbv;repeat (refine⟨an_,?_⟩;cbv))
set_option maxHeartbeats 4000000 in
theorem registry_Registry_Revoke_nil_R {P:Program}(hP:P=Tryz.prog)(serial:Int)(now:Int)(r:Int)(h:registry_Registry_Revoke_nil_g serial now=some r):Fn1 P 45 [.d (.val (.pointer none)),vIi64 serial,vIi64 now] (vIi64 r):=by
 refine .walkE (hP▸c45_ok) fun K hK=>?_;unfold registry_Registry_Revoke_nil_g at h;cbv;refine .g h (fun (v1:Bool)=>[.d (.val (.pointer none)),oi serial]++rp 3 .top++[.ptr 0 0]++rp 6 .top++[ob v1]++rp 4 .top) (fun v1=>[.cells [oi now] 3]) (fun y hm Kn1 hKn1=>?_) fun t h=>?_
 ·have h:=hm;clear hm;cbv;refine brkG h ?_ ?_<;>intro h
  ·cbv;obtain rfl:=oj h;refine hKn1 _ _ _ rfl (.nz (.mtE [0] ?_));(cbv;repeat (refine⟨an_,?_⟩;cbv))
  ·cbv;obtain rfl:=oj h;refine hKn1 _ _ _ rfl (.nz (.mtE [0] ?_));(cbv;repeat (refine⟨an_,?_⟩;cbv))
 obtain⟨v1,rfl⟩:=ez t;cbv;refine brkG h ?_ ?_<;>intro h
 ·cbv;obtain rfl:=oj h;exact hK _ _ aw_
 ·cbv;refine .inl (hP▸c60_ok) ?_;cbv;obtain rfl:=oj h;exact hK _ _ aw_
end Go.SX.Rg
namespace Go.SX.Rg
open Go Go.SX Go.Proofs
set_option maxRecDepth 100000
end Go.SX.Rg
namespace Go.SX.Rg
open Go Go.SX Go.Proofs
set_option maxRecDepth 100000
def c59r0 : List GOp:=[
 gv 2 (.mv (.const (.slice none 0 0)))]
def c59r1 : List GOp:=[
 gv 3 (.mv (.tmp 0)),
 gv 4 (.snl false (.tmp 3))]
def c59r2 : List GOp:=[
 gv 2 (.mv (.const (.slice none 0 0)))]
def c59r3 : List GOp:=[
 gv 5 (.bslice 46 2 0 (.agg #[(.string ⟨#[]⟩),(.slice none 0 0)]) []),
 gv 6 (.mv (.tmp 0)),
 gv 7 (.app 46 2 40 (.agg #[(.string ⟨#[]⟩),(.slice none 0 0)]) (.tmp 5) (.tmp 6)),
 gv 2 (.mv (.tmp 7))]
def c59 : EFn:=⟨8,.seq (.reg c59r0) (.seq (.seq (.reg c59r1) (.cond (.tmp 4) (.seq (.reg c59r2) (.ret)) (.skip))) (.seq (.reg c59r3) (.ret))),[.tmp 2]⟩
theorem c59_ok : compF Tryz.prog 59=some c59.er:=by kernel_rfl
end Go.SX.Rg
namespace Go.SX.Rg
open Go Go.SX Go.Proofs
set_option maxRecDepth 100000
set_option maxHeartbeats 4000000 in
theorem slices_CloneW_O {P:Program}(hP:P=Tryz.prog)(s_:(List Transfer))(r:(List Transfer))(h:slices_CloneW_g s_=some r):SCall P 59 [] [vLTransfer s_] (fun sv own'=>sv=.hd 0∧own'=[.row 46 2 (W eTransfer r)]):=by
 refine .walkO (hP▸c59_ok) fun K hK=>?_;unfold slices_CloneW_g at h;cbv;refine .g h fun b1 h=>?_;cbv;refine brkG h ?_ ?_<;>intro h
 ·cbv;obtain rfl:=oj h;exact hK _ _ aw_
 ·cbv;refine .g (e:=eTransfer) h (W_nil' _) fun l2 h=>?_;cbv;refine .g h rfl (fun _=>rfl) (by decide) fun l3 h=>?_;cbv;obtain rfl:=oj h;exact hK _ _ aw_
end Go.SX.Rg
namespace Go.SX.Rg
open Go Go.SX Go.Proofs
set_option maxRecDepth 100000
def c62r0 : List GOp:=[
 gv 2 (.mv (.const (.slice none 0 0)))]
def c62r1 : List GOp:=[
 gv 3 (.mv (.tmp 0)),
 gv 4 (.snl false (.tmp 3))]
def c62r2 : List GOp:=[
 gv 2 (.mv (.const (.slice none 0 0)))]
def c62r3 : List GOp:=[
 gv 5 (.bslice 9 1 0 (.string ⟨#[]⟩) []),
 gv 6 (.mv (.tmp 0)),
 gv 7 (.app 9 1 16 (.string ⟨#[]⟩) (.tmp 5) (.tmp 6)),
 gv 2 (.mv (.tmp 7))]
def c62 : EFn:=⟨8,.seq (.reg c62r0) (.seq (.seq (.reg c62r1) (.cond (.tmp 4) (.seq (.reg c62r2) (.ret)) (.skip))) (.seq (.reg c62r3) (.ret))),[.tmp 2]⟩
theorem c62_ok : compF Tryz.prog 62=some c62.er:=by kernel_rfl
set_option maxHeartbeats 4000000 in
theorem slices_Clone_2_R {P:Program}(hP:P=Tryz.prog)(s_:(List ByteArray))(r:(List ByteArray))(h:slices_Clone_2_g s_=some r):Fn1 P 62 [vLS s_] (vLS r):=by
 refine .walkE (hP▸c62_ok) fun K hK=>?_;unfold slices_Clone_2_g at h;cbv;refine .g h fun b1 h=>?_;cbv;refine brkG h ?_ ?_<;>intro h
 ·cbv;obtain rfl:=oj h;exact hK _ _ aw_
 ·cbv;refine .g (e:=eS) h (W_nil' _) fun l2 h=>?_;cbv;refine .g h rfl (fun _=>rfl) (by decide) fun l3 h=>?_;cbv;obtain rfl:=oj h;exact hK _ _ aw_
end Go.SX.Rg
namespace Go.SX.Rg
open Go Go.SX Go.Proofs
set_option maxRecDepth 100000
def c70r0 : List GOp:=[
 gv 5 (.mv (.const (.int .i64 0)))]
def c70r1 : List GOp:=[
 gv 7 (.load 1 false (.tmp 1)),
 gv 8 (.nilck (.tmp 7)),
 gv 9 (.fadd 3 (.tmp 8)),
 gv 10 (.load 1 false (.tmp 9)),
 gv 11 (.load 1 false (.tmp 2)),
 gv 12 (.mget (.int .i64) false false oz (.tmp 10) (.tmp 11)),
 gv 6 (.mv (.tmp 12))]
def c70r2 : List GOp:=[
 gv 13 (.mv (.tmp 6)),
 gv 14 (.bin .neq (.tmp 13) (.const (.int .i64 0))),
 gv 15 (.mv (.tmp 14)),
 gw 16 15 true (.mv (.tmp 6)),
 gw 17 15 true (.load 1 false (.tmp 3)),
 gw 18 15 true (.bin .neq (.tmp 16) (.tmp 17)),
 gv 19 (.pick (.tmp 15) (.tmp 18) (.const (.bool false)))]
def c70r3 : List GOp:=[
 gv 5 (.mv (.const (.int .i64 16)))]
def c70r4 : List GOp:=[
 gv 20 (.mv (.tmp 0)),
 gv 21 (.load 1 false (.tmp 2)),
 gv 22 (.nilck (.tmp 20)),
 gv 23 (.fadd 0 (.tmp 22)),
 gv 24 (.fadd 2 (.tmp 23)),
 ⟨none,.store 1 (.tmp 24) (.tmp 21),none⟩]
def c70r5 : List GOp:=[
 gv 5 (.mv (.const (.int .i64 0)))]
def c70 : EFn:=⟨25,.seq (.reg c70r0) (.seq (.seq (.par true true true true 5 c70r1) (.join (.reg c70r2) (.cond (.tmp 19) (.seq (.reg c70r3) (.ret)) (.skip)))) (.seq (.reg c70r4) (.seq (.reg c70r5) (.ret)))),[.tmp 5]⟩
theorem c70_ok : compF Tryz.prog 70=some c70.er:=by kernel_rfl
def c38r0 : List GOp:=[
 gv 3 (.box 25 (.tmp 0)),
 gv 4 (.box 3 (.tmp 1)),
 gv 5 (.box 3 (.tmp 2)),
 gv 6 (.mv (.const (.int .i64 0)))]
def c38r1 : List GOp:=[
 gv 7 (.load 1 false (.tmp 3)),
 gv 8 (.pnil false (.tmp 7)),
 gv 9 (.mv (.tmp 8)),
 gw 10 9 false (.load 1 false (.tmp 5)),
 gw 11 9 false (.bin .lss (.tmp 10) (.const (.int .i64 (-1)))),
 gv 12 (.pick (.tmp 9) (.const (.bool true)) (.tmp 11)),
 gv 13 (.mv (.tmp 12)),
 gw 14 13 false (.load 1 false (.tmp 5)),
 gw 15 13 false (.load 1 false (.tmp 3)),
 gw 16 13 false (.nilck (.tmp 15)),
 gw 17 13 false (.fadd 1 (.tmp 16)),
 gw 18 13 false (.load 1 false (.tmp 17)),
 gw 19 13 false (.bin .geq (.tmp 14) (.tmp 18)),
 gv 20 (.pick (.tmp 13) (.const (.bool true)) (.tmp 19))]
def c38r2 : List GOp:=[
 gv 6 (.mv (.const (.int .i64 1)))]
def c38r3 : List GOp:=[
 gv 21 (.load 1 false (.tmp 3)),
 gv 22 (.load 1 false (.tmp 4)),
 gv 23 (.mkfn (.func 70) [] [(.tmp 3),(.tmp 5),(.tmp 4)]),
 gv 24 (.call 60 [(.tmp 21),(.tmp 22),(.tmp 23)]),
 gv 6 (.mv (.tmp 24))]
def c38 : EFn:=⟨25,.seq (.reg c38r0) (.seq (.join (.par true true true true 12 c38r1) (.cond (.tmp 20) (.seq (.reg c38r2) (.ret)) (.skip))) (.seq (.reg c38r3) (.ret))),[.tmp 6]⟩
theorem c38_ok : compF Tryz.prog 38=some c38.er:=by kernel_rfl
set_option maxHeartbeats 8000000 in
theorem registry_Registry_Move_R {P:Program}(hP:P=Tryz.prog)(show0:Int)(places0:Int)(titles0:(List (Int×Entry)))(at0:(List (Int×Int)))(serial:Int)(place:Int)(r:Int×(List (Int×Entry))×(List (Int×Int)))(h:registry_Registry_Move_b show0 places0 titles0 at0 serial place=some r):SCall P 38 [.cells [oi show0,oi places0,.hd 1,.hd 2] 74,.mp (.int .i64) true (WM (Value.int .i64) eEntry titles0),.mp (.int .i64) false (WM (Value.int .i64) eIi64 at0)] [.ptr 0 0,oi serial,oi place] (fun sv own'=>sv=oi r.1∧own'=[.cells [oi show0,oi places0,.hd 1,.hd 2] 74,.mp (.int .i64) true (WM (Value.int .i64) eEntry r.2.1),.mp (.int .i64) false (WM (Value.int .i64) eIi64 r.2.2)]):=by
 refine .walkF 3 rfl (Nat.le_of_ble_eq_true rfl) (hP▸c38_ok) fun K hK=>?_;unfold registry_Registry_Move_b at h;cbv;refine .g h (fun (v1:Bool)=>rp 3 .top++[.ptr 3 0,.ptr 4 0,.ptr 5 0]++rp 14 .top++[ob v1]++rp 4 .top) (fun v1=>[.cells [oi show0,oi places0,.hd 1,.hd 2] 74,.mp (.int .i64) true (WM (Value.int .i64) eEntry titles0),.mp (.int .i64) false (WM (Value.int .i64) eIi64 at0),.cells [.ptr 0 0] 25,.cells [oi serial] 3,.cells [oi place] 3]) (fun y hm Kn1 hKn1=>?_) fun t h=>?_
 ·have h:=hm;clear hm;cbv;refine brkG h ?_ ?_<;>intro h
  ·cbv;obtain rfl:=oj h;refine hKn1 _ _ _ rfl (.nz (.mtE [0,1,2,3,4,5] ?_));(cbv;repeat (refine⟨an_,?_⟩;cbv))
  ·cbv;obtain rfl:=oj h;refine hKn1 _ _ _ rfl (.nz (.mtE [0,1,2,3,4,5] ?_));(cbv;repeat (refine⟨an_,?_⟩;cbv))
 obtain⟨v1,rfl⟩:=ez t;cbv;refine brkG h ?_ ?_<;>intro h
 ·cbv;obtain rfl:=oj h;refine hK _ _ [] [0,1,2] ?_;(cbv;repeat (refine⟨an_,?_⟩;cbv))
 ·cbv;refine .inl (hP▸c60_ok) ?_;cbv;refine .oi (e:=eEntry) h (by first | rfl | exact WM_nil' _ _) (fun y2 h=>?_) (fun h=>?_)
  ·cbv;refine brkF io_nt ?_;cbv;refine brkG h ?_ ?_<;>intro h
   ·cbv;obtain rfl:=oj h;refine hK _ _ [] [0,1,2] ?_;(cbv;repeat (refine⟨an_,?_⟩;cbv))
   ·cbv;refine .g h (fun ((Place3,e4):Int×Int)=>[.ptr 0 0,oi serial]++rp 5 .top++[.ptr 6 0,.top,oi y2.Title.Place,oi e4]++rp 56 .top) (fun (Place3,e4)=>[.cells [oi show0,oi places0,.hd 1,.hd 2] 74,.mp (.int .i64) true (WM (Value.int .i64) eEntry titles0),.mp (.int .i64) false (WM (Value.int .i64) eIi64 at0),.cells [.ptr 0 0] 25,.cells [oi serial] 3,.cells [oi place] 3,.cells [oi y2.Title.Serial,oi y2.Title.Show,oi Place3,.d (.val (.string y2.Title.First)),.d (.sl (W eTransfer y2.Title.Chain)),oi y2.gone] 78]) (fun y hm Kn1 hKn1=>?_) fun t h=>?_
    ·have h:=hm;clear hm;cbv;refine .inl (hP▸c70_ok) ?_;cbv;refine .gi (e:=eIi64) h (by first | rfl | exact WM_nil' _ _) (fun h=>h) fun y5 h=>?_;cbv;refine .g h (fun (v6:Bool)=>[.ptr 6 0,.top,.ptr 5 0]++rp 16 .top++[ob v6]++rp 5 .top) (fun v6=>[.cells [oi show0,oi places0,.hd 1,.hd 2] 74,.mp (.int .i64) true (WM (Value.int .i64) eEntry titles0),.mp (.int .i64) false (WM (Value.int .i64) eIi64 at0),.cells [.ptr 0 0] 25,.cells [oi serial] 3,.cells [oi place] 3,.cells [oi y2.Title.Serial,oi y2.Title.Show,oi y2.Title.Place,.d (.val (.string y2.Title.First)),.d (.sl (W eTransfer y2.Title.Chain)),oi y2.gone] 78]) (fun y hm Kn2 hKn2=>?_) fun t h=>?_
     ·have h:=hm;clear hm;cbv;refine brkG h ?_ ?_<;>intro h
      ·cbv;obtain rfl:=oj h;refine hKn2 _ _ _ rfl (.nz (.mtE [0,1,2,3,4,5,6] ?_));(cbv;repeat (refine⟨an_,?_⟩;cbv))
      ·cbv;obtain rfl:=oj h;refine hKn2 _ _ _ rfl (.nz (.mtE [0,1,2,3,4,5,6] ?_));(cbv;repeat (refine⟨an_,?_⟩;cbv))
     obtain⟨v6,rfl⟩:=ez t;cbv;refine brkG h ?_ ?_<;>intro h
     ·cbv;obtain rfl:=oj h;refine hKn1 _ _ _ rfl (.nz (.mtE [0,1,2,3,4,5,6] ?_));(cbv;repeat (refine⟨an_,?_⟩;cbv))
     ·cbv;obtain rfl:=oj h;refine hKn1 _ _ _ rfl (.nz (.mtE [0,1,2,3,4,5,6] ?_));(cbv;repeat (refine⟨an_,?_⟩;cbv))
    obtain⟨Place3,e4⟩:=t;cbv;refine brkG h ?_ ?_<;>intro h
    ·cbv;obtain rfl:=oj h;refine hK _ _ [] [0,1,2] ?_;(cbv;repeat (refine⟨an_,?_⟩;cbv))
    ·cbv;refine .gi (e:=eEntry) h (by first | rfl | exact WM_nil' _ _) aw_ fun m7 h=>?_;cbv;refine .g h (fun (own8:(List (Int×Int)))=>[.ptr 0 0,oi serial]++rp 5 .top++[.ptr 6 0]++rp 59 .top) (fun own8=>[.cells [oi show0,oi places0,.hd 1,.hd 2] 74,.mp (.int .i64) true (WM (Value.int .i64) eEntry m7),.mp (.int .i64) false (WM (Value.int .i64) eIi64 own8),.cells [.ptr 0 0] 25,.cells [oi serial] 3,.cells [oi place] 3,.cells [oi y2.Title.Serial,oi y2.Title.Show,oi Place3,.d (.val (.string y2.Title.First)),.d (.sl (W eTransfer y2.Title.Chain)),oi y2.gone] 78]) (fun y hm Kn1 hKn1=>?_) fun t h=>?_
     ·have h:=hm;clear hm;cbv;refine brkG h ?_ ?_<;>intro h
      ·cbv;refine .gi (e:=eIi64) h rfl fun m9 h=>?_;cbv;obtain rfl:=oj h;refine hKn1 _ _ _ rfl (.nz (.mtE [0,1,2,3,4,5,6] ?_));(cbv;repeat (refine⟨an_,?_⟩;cbv))
      ·cbv;obtain rfl:=oj h;refine hKn1 _ _ _ rfl (.nz (.mtE [0,1,2,3,4,5,6] ?_));(cbv;repeat (refine⟨an_,?_⟩;cbv))
     obtain⟨own8,rfl⟩:=ez t;cbv;refine .g h (fun (v10:Bool)=>[.ptr 0 0,oi serial]++rp 5 .top++[.ptr 6 0]++rp 50 .top++[ob v10]++rp 8 .top) (fun v10=>[.cells [oi show0,oi places0,.hd 1,.hd 2] 74,.mp (.int .i64) true (WM (Value.int .i64) eEntry m7),.mp (.int .i64) false (WM (Value.int .i64) eIi64 own8),.cells [.ptr 0 0] 25,.cells [oi serial] 3,.cells [oi place] 3,.cells [oi y2.Title.Serial,oi y2.Title.Show,oi Place3,.d (.val (.string y2.Title.First)),.d (.sl (W eTransfer y2.Title.Chain)),oi y2.gone] 78]) (fun y hm Kn1 hKn1=>?_) fun t h=>?_
     ·have h:=hm;clear hm;cbv;refine brkG h ?_ ?_<;>intro h
      ·cbv;obtain rfl:=oj h;refine hKn1 _ _ _ rfl (.nz (.mtE [0,1,2,3,4,5,6] ?_));(cbv;repeat (refine⟨an_,?_⟩;cbv))
      ·cbv;obtain rfl:=oj h;refine hKn1 _ _ _ rfl (.nz (.mtE [0,1,2,3,4,5,6] ?_));(cbv;repeat (refine⟨an_,?_⟩;cbv))
     obtain⟨v10,rfl⟩:=ez t;cbv;refine brkG h ?_ ?_<;>intro h
     ·cbv;refine .gi (e:=eIi64) h (by first | rfl | exact WM_nil' _ _) aw_ fun m11 h=>?_;cbv;obtain rfl:=oj h;refine hK _ _ [] [0,1,2] ?_;(cbv;repeat (refine⟨an_,?_⟩;cbv))
     ·cbv;obtain rfl:=oj h;refine hK _ _ [] [0,1,2] ?_;(cbv;repeat (refine⟨an_,?_⟩;cbv))
  ·cbv;refine brkT io_nf ?_;cbv;obtain rfl:=oj h;refine hK _ _ [] [0,1,2] ?_;(cbv;repeat (refine⟨an_,?_⟩;cbv))
end Go.SX.Rg
namespace Go.SX.Rg
open Go Go.SX Go.Proofs
set_option maxRecDepth 100000
noncomputable def ref03_Same_l2 (a:(List ByteArray))(b:(List ByteArray)):Int→Option ((Int) ⊕ ((Unit) ⊕ (Bool)))
 | i1 =>
 bif (io.lt i1 (io.len (W eS a))) then (
 Option.bind (idxG a i1) fun x2 =>
 Option.bind (idxG b i1) fun x3 =>
 bif (io.not (io.seq x2 x3)) then (
 some (.inr (.inr false))
 ) else (
 some (.inl (io.ar .add .i64 i1 1))
 )
 ) else (
 some (.inr (.inl ()))
 )
noncomputable def ref03_Same_g (a:(List ByteArray))(b:(List ByteArray)):Option (Bool) :=
 bif (io.not (io.eq (io.len (W eS a)) (io.len (W eS b)))) then (
 some false
 ) else (
 orR (
 whileG (ref03_Same_l2 a b) 0
 ) fun _ =>
 some true
 )
end Go.SX.Rg
namespace Go.SX.Rg
open Go Go.SX Go.Proofs
set_option maxRecDepth 100000
noncomputable def ref30_Extends_l2 (b:Title)(a:Title):Int→Option ((Int) ⊕ ((Unit) ⊕ (Bool)))
 | i2 =>
 bif (io.lt i2 (io.len (W eTransfer b.Chain))) then (
 Option.bind (
 Option.bind (idxG a.Chain i2) fun x4 =>
 Option.bind (idxG b.Chain i2) fun x5 =>
 bif (io.not (io.seq x4.To x5.To)) then (
 some true
 ) else (
 Option.bind (idxG a.Chain i2) fun x6 =>
 Option.bind (idxG b.Chain i2) fun x7 =>
 Option.bind (ref03_Same_g x6.Sig x7.Sig) fun v8 =>
 some (io.not v8)
 )
 ) fun v3 =>
 bif v3 then (
 some (.inr (.inr false))
 ) else (
 some (.inl (io.ar .add .i64 i2 1))
 )
 ) else (
 some (.inr (.inl ()))
 )
noncomputable def ref30_Extends_g (a:Title)(b:Title):Option (Bool) :=
 Option.bind (
 bif (io.not (io.eq a.Serial b.Serial)) then (
 some true
 ) else (
 bif (io.not (io.eq a.Show b.Show)) then (
 some true
 ) else (
 bif (io.not (io.seq a.First b.First)) then (
 some true
 ) else (
 some (io.lt (io.len (W eTransfer a.Chain)) (io.len (W eTransfer b.Chain)))
 )
 )
 )
 ) fun v1 =>
 bif v1 then (
 some false
 ) else (
 orR (
 whileG (ref30_Extends_l2 b a) 0
 ) fun _ =>
 some true
 )
end Go.SX.Rg
namespace Go.SX.Rg
open Go Go.SX Go.Proofs
set_option maxRecDepth 100000
noncomputable def ref30_Same_g (a:Title)(b:Title):Option (Bool) :=
 Option.bind (ref30_Extends_g a b) fun v1 =>
 bif v1 then (
 Option.bind (ref30_Extends_g b a) fun v2 =>
 bif v2 then (
 some (io.eq a.Place b.Place)
 ) else (
 some false
 )
 ) else (
 some false
 )
end Go.SX.Rg
namespace Go.SX.Rg
open Go Go.SX Go.Proofs
set_option maxRecDepth 100000
def c92r0 : List GOp:=[
 gv 4 (.mv (.const (.bool false)))]
def c92r1 : List GOp:=[
 gv 6 (.mv (.tmp 0)),
 gv 7 (.len false (.tmp 6)),
 gv 8 (.mv (.tmp 1)),
 gv 9 (.len false (.tmp 8)),
 gv 10 (.bin .neq (.tmp 7) (.tmp 9))]
def c92r2 : List GOp:=[
 gv 4 (.mv (.const (.bool false)))]
def c92r3 : List GOp:=[
 gv 5 (.mv (.const (.int .i64 0)))]
def c92r4 : List GOp:=[
 gv 11 (.mv (.tmp 5)),
 gv 12 (.mv (.tmp 0)),
 gv 13 (.len false (.tmp 12)),
 gv 14 (.bin .lss (.tmp 11) (.tmp 13))]
def c92r5 : List GOp:=[
 gv 17 (.mv (.tmp 0)),
 gv 18 (.mv (.tmp 5)),
 gv 19 (.idxA 1 (.tmp 17) (.tmp 18)),
 gv 20 (.load 1 false (.tmp 19)),
 gv 21 (.mv (.tmp 1)),
 gv 22 (.mv (.tmp 5)),
 gv 23 (.idxA 1 (.tmp 21) (.tmp 22)),
 gv 24 (.load 1 false (.tmp 23)),
 gv 25 (.bin .neq (.tmp 20) (.tmp 24))]
def c92r6 : List GOp:=[
 gv 4 (.mv (.const (.bool false)))]
def c92r7 : List GOp:=[
 gv 15 (.mv (.tmp 5)),
 gv 16 (.bin .add (.tmp 15) (.const (.int .i64 1))),
 gv 5 (.mv (.tmp 16))]
def c92l8 : DE:=.seq (.seq (.reg c92r4) (.cond (.tmp 14) (.skip) (.exit 0))) (.seq (.block 1 (.seq (.par true true true true 8 c92r5) (.cond (.tmp 25) (.seq (.reg c92r6) (.ret)) (.skip)))) (.reg c92r7))
def c92r9 : List GOp:=[
 gv 4 (.mv (.const (.bool true)))]
def c92 : EFn:=⟨26,.seq (.reg c92r0) (.seq (.seq (.reg c92r1) (.cond (.tmp 10) (.seq (.reg c92r2) (.ret)) (.skip))) (.join (.seq (.reg c92r3) (.block 0 (.loop c92l8))) (.seq (.reg c92r9) (.ret)))),[.tmp 4]⟩
theorem c92_ok : compF Tryz.prog 92=some c92.er:=by kernel_rfl
set_option maxHeartbeats 4000000 in
theorem ref03_Same_R {P:Program}(hP:P=Tryz.prog)(a:(List ByteArray))(b:(List ByteArray))(r:Bool)(h:ref03_Same_g a b=some r):Fn1 P 92 [vLS a,vLS b] (vB r):=by
 refine .walkE (hP▸c92_ok) fun K hK=>?_;unfold ref03_Same_g at h;cbv;refine brkG h ?_ ?_<;>intro h
 ·cbv;obtain rfl:=oj h;exact hK _ _ aw_
 ·cbv;refine .ga h (fun (_:Unit)=>rp 26 .top) (fun _=>[]) (fun y hm hr1 Kn1 hKn1=>?_) fun t h=>?_
  ·have h:=hm;clear hm;cbv;refine .g h (fun (i1:Int)=>[.d (.sl (W eS a)),.d (.sl (W eS b))]++rp 3 .top++[oi i1]++rp 20 .top) (fun i1=>[]) (.nz (.mtE [] ?_)) fun s x h hr2 Kn2 hKn2=>?_
   ·(cbv;repeat (refine⟨an_,?_⟩;cbv))
   unfold ref03_Same_l2 at h;obtain⟨i1,rfl⟩:=ez s;cbv;refine brkG h ?_ ?_<;>intro h
   ·cbv;refine .g h (fun _=>rfl) fun x2 h=>?_;cbv;refine .g h (fun _=>rfl) fun x3 h=>?_;cbv;refine brkG h ?_ ?_<;>intro h
    ·cbv;obtain rfl:=oj h;obtain rfl:=hr2 _ rfl;obtain rfl:=hr1 _ rfl;exact hK _ _ aw_
    ·cbv;obtain rfl:=oj h;refine hKn2 _ _ _ rfl (.nz (.mtE [] ?_));(cbv;repeat (refine⟨an_,?_⟩;cbv))
   ·cbv;obtain rfl:=oj h;obtain rfl:=hr2 _ rfl;refine hKn1 _ _ _ rfl (.nz (.mtE [] ?_));(cbv;repeat (refine⟨an_,?_⟩;cbv))
  cbv;obtain rfl:=oj h;exact hK _ _ aw_
end Go.SX.Rg
