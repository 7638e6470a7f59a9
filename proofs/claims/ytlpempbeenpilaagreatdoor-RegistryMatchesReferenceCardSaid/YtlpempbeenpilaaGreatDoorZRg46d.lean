/- Parts of the proof. -/
import Derived.Test.YtlpempbeenpilaaGreatDoorZRgT
set_option linter.unusedSimpArgs false
set_option linter.unusedVariables false
set_option linter.unusedSectionVars false
namespace Go.SX.Rg
open Go Go.SX Go.Proofs
set_option maxRecDepth 100000
noncomputable def ref02_Few_l2 (l:(List ByteArray))(most:Int):Int→Option ((Int) ⊕ ((Unit) ⊕ (Bool)))
 | i1 =>
 bif (io.lt i1 (io.len (W eS l))) then (
 Option.bind (idxG l i1) fun x2 =>
 bif (io.lt most (io.ssz x2)) then (
 some (.inr (.inr false))
 ) else (
 some (.inl (io.ar .add .i64 i1 1))
 )
 ) else (
 some (.inr (.inl ()))
 )
noncomputable def ref02_Few_g (l:(List ByteArray))(most:Int):Option (Bool) :=
 orR (
 whileG (ref02_Few_l2 l most) 0
 ) fun _ =>
 some (io.le (io.len (W eS l)) 30)
end Go.SX.Rg
namespace Go.SX.Rg
open Go Go.SX Go.Proofs
set_option maxRecDepth 100000
noncomputable def law32_few_l2 (l:(List Op)):Int→Option ((Int) ⊕ ((Unit) ⊕ (Bool)))
 | i1 =>
 bif (io.lt i1 (io.len (W eOp l))) then (
 Option.bind (
 Option.bind (idxG l i1) fun x3 =>
 bif (io.lt 60 (io.ssz x3.Key)) then (
 some true
 ) else (
 Option.bind (idxG l i1) fun x4 =>
 bif (io.lt 20 (io.len (W eS x4.Sig))) then (
 some true
 ) else (
 Option.bind (idxG l i1) fun x5 =>
 Option.bind (ref02_Few_g x5.Sig 60) fun v6 =>
 some (io.not v6)
 )
 )
 ) fun v2 =>
 bif v2 then (
 some (.inr (.inr false))
 ) else (
 some (.inl (io.ar .add .i64 i1 1))
 )
 ) else (
 some (.inr (.inl ()))
 )
noncomputable def law32_few_g (l:(List Op)):Option (Bool) :=
 orR (
 whileG (law32_few_l2 l) 0
 ) fun _ =>
 some (io.le (io.len (W eOp l)) 16)
end Go.SX.Rg
namespace Go.SX.Rg
open Go Go.SX Go.Proofs
set_option maxRecDepth 100000
def c46r0 : List GOp:=gS 4 [.mv (cB false)]
def c46r1 : List GOp:=gS 5 [.mv (ci 0)]
def c46r2 : List GOp:=gS 6 [.mv 5,.mv 0,.len false 7,.bin .lss 6 8]
def c46r3 : List GOp:=gS 12 [.mv 0,.mv 5,.idxA 1 12 13,.load 1 false 14,.len true 15,.mv 1,.bin .gtr 16 17]
def c46r4 : List GOp:=gS 4 [.mv (cB false)]
def c46r5 : List GOp:=gS 10 [.mv 5,.bin .add 10 (ci 1)]++gS 5 [.mv 11]
def c46l6 : DE:=.seq (.seq (.reg c46r2) (.cond 9 (.skip) (.exit 0))) (.seq (.block 1 (.seq (.reg c46r3) (.cond 18 (.seq (.reg c46r4) (.ret)) (.skip)))) (.reg c46r5))
def c46r7 : List GOp:=gS 19 [.mv 0,.len false 19,.bin .leq 20 (ci 30)]++gS 4 [.mv 21]
def c46 : EFn:=⟨22,.seq (.reg c46r0) (.join (.seq (.reg c46r1) (.block 0 (.loop c46l6))) (.seq (.reg c46r7) (.ret))),[.tmp 4]⟩
theorem c46_ok : compF Tryz.prog 46=some c46.er:=by kernel_rfl
set_option maxHeartbeats 4000000 in
theorem ref02_Few_R {P:Program}(hP:P=Tryz.prog)(l:(List ByteArray))(most:Int)(r:Bool)(h:ref02_Few_g l most=some r):Fn1 P 46 [vLS l,vIi64 most] (vB r):=by
 refine .walkE (hP▸c46_ok) fun K hK=>?_;unfold ref02_Few_g at h;cbv;refine .ga h (fun (_:Unit)=>[dq eS l]++rp 21 .top) (fun _=>[]) (fun y hm hr1 Kn1 hKn1=>?_) fun t h=>?_
 ·have h:=hm;clear hm;cbv;refine .g h (fun (i1:Int)=>[dq eS l,oi most]++rp 3 .top++[oi i1]++rp 16 .top) (fun i1=>[]) (.nz (.mtE [] ?_)) fun s x h hr2 Kn2 hKn2=>?_
  ·exact mx
  unfold ref02_Few_l2 at h;obtain⟨i1,rfl⟩:=ez s;cbv;refine brkG h ?_ ?_<;>intro h
  ·cbv;refine .g h (fun _=>rfl) fun x2 h=>?_;cbv;refine brkG h ?_ ?_<;>intro h
   ·cbv;obtain rfl:=oj h;obtain rfl:=hr2 _ rfl;obtain rfl:=hr1 _ rfl;exact hK _ _ aw_
   ·cbv;obtain rfl:=oj h;exact hKn2 _ _ _ rfl (.nz (.mtE [] mx))
  ·cbv;obtain rfl:=oj h;obtain rfl:=hr2 _ rfl;exact hKn1 _ _ _ rfl (.nz (.mtE [] mx))
 cbv;obtain rfl:=oj h;exact hK _ _ aw_
end Go.SX.Rg
namespace Go.SX.Rg
open Go Go.SX Go.Proofs
set_option maxRecDepth 100000
def c10r0 : List GOp:=gS 2 [.mv (cB false)]
def c10r1 : List GOp:=gS 3 [.mv (ci 0)]
def c10r2 : List GOp:=gS 4 [.mv 3,.mv 0,.len false 5,.bin .lss 4 6]
def c10r3 : List GOp:=gS 10 [.mv 0,.mv 3,.idxA 5 10 11,.fadd 3 12,.load 1 false 13,.len true 14,.bin .gtr 15 (ci 60),.mv 16]++gQ 17 false 18 [.mv 0,.mv 3,.idxA 5 18 19,.fadd 4 20,.load 1 false 21,.len false 22,.bin .gtr 23 (ci 20)]++gS 25 [.pick 17 (cB true) 24,.mv 25]++gQ 26 false 27 [.mv 0,.mv 3,.idxA 5 27 28,.fadd 4 29,.load 1 false 30,.call 46 [31,(ci 60)],.un .not 32]++gS 34 [.pick 26 (cB true) 33]
def c10r4 : List GOp:=gS 2 [.mv (cB false)]
def c10r5 : List GOp:=gS 8 [.mv 3,.bin .add 8 (ci 1)]++gS 3 [.mv 9]
def c10l6 : DE:=.seq (.seq (.reg c10r2) (.cond 7 (.skip) (.exit 0))) (.seq (.block 1 (.join (.reg c10r3) (.cond 34 (.seq (.reg c10r4) (.ret)) (.skip)))) (.reg c10r5))
def c10r7 : List GOp:=gS 35 [.mv 0,.len false 35,.bin .leq 36 (ci 16)]++gS 2 [.mv 37]
def c10 : EFn:=⟨38,.seq (.reg c10r0) (.join (.seq (.reg c10r1) (.block 0 (.loop c10l6))) (.seq (.reg c10r7) (.ret))),[.tmp 2]⟩
theorem c10_ok : compF Tryz.prog 10=some c10.er:=by kernel_rfl
set_option maxHeartbeats 4000000 in
theorem law32_few_R {P:Program}(hP:P=Tryz.prog)(l:(List Op))(r:Bool)(h:law32_few_g l=some r):Fn1 P 10 [vLOp l] (vB r):=by
 refine .walkE (hP▸c10_ok) fun K hK=>?_;unfold law32_few_g at h;cbv;refine .ga h (fun (_:Unit)=>[dq eOp l]++rp 37 .top) (fun _=>[]) (fun y hm hr1 Kn1 hKn1=>?_) fun t h=>?_
 ·have h:=hm;clear hm;cbv;refine .g h (fun (i1:Int)=>[dq eOp l,.top,.top,oi i1]++rp 34 .top) (fun i1=>[]) (.nz (.mtE [] ?_)) fun s x h hr2 Kn2 hKn2=>?_
  ·exact mx
  unfold law32_few_l2 at h;obtain⟨i1,rfl⟩:=ez s;cbv;refine brkG h ?_ ?_<;>intro h
  ·cbv;refine .g h (fun (v2:Bool)=>[dq eOp l,.top,.top,oi i1]++rp 30 .top++[ob v2]++rp 3 .top) (fun v2=>[]) (fun y hm Kn3 hKn3=>?_) fun t h=>?_
   ·have h:=hm;clear hm;cbv;refine .g h (fun _=>rfl) fun x3 h=>?_;cbv;refine brkG h ?_ ?_<;>intro h
    ·cbv;obtain rfl:=oj h;exact hKn3 _ _ _ rfl (.nz (.mtE [] mx))
    ·cbv;refine .g h (fun _=>rfl) fun x4 h=>?_;cbv;refine brkG h ?_ ?_<;>intro h
     ·cbv;obtain rfl:=oj h;exact hKn3 _ _ _ rfl (.nz (.mtE [] mx))
     ·cbv;refine .g h (fun _=>rfl) fun x5 h=>?_;cbv;refine .g h (fun v hv=>ref02_Few_R hP _ _ v hv) aw_ rfl (fun _=>rfl) fun v6 h=>?_;cbv;obtain rfl:=oj h;exact hKn3 _ _ _ rfl (.nz (.mtE [] mx))
   obtain⟨v2,rfl⟩:=ez t;cbv;refine brkG h ?_ ?_<;>intro h
   ·cbv;obtain rfl:=oj h;obtain rfl:=hr2 _ rfl;obtain rfl:=hr1 _ rfl;exact hK _ _ aw_
   ·cbv;obtain rfl:=oj h;exact hKn2 _ _ _ rfl (.nz (.mtE [] mx))
  ·cbv;obtain rfl:=oj h;obtain rfl:=hr2 _ rfl;exact hKn1 _ _ _ rfl (.nz (.mtE [] mx))
 cbv;obtain rfl:=oj h;exact hK _ _ aw_
end Go.SX.Rg
namespace Go.SX.Rg
open Go Go.SX Go.Proofs
set_option maxRecDepth 100000
noncomputable def registry_New_b (show_:Int)(places:Int):Option (Bool) :=
 Option.bind (
 bif (io.lt show_ 0) then (
 some true
 ) else (
 bif (io.le 20 show_) then (
 some true
 ) else (
 bif (io.lt places 0) then (
 some true
 ) else (
 some (io.lt 4000 places)
 )
 )
 )
 ) fun v1 =>
 bif v1 then (
 some true
 ) else (
 some false
 )
end Go.SX.Rg
namespace Go.SX.Rg
open Go Go.SX Go.Proofs
set_option maxRecDepth 100000
def c11r0 : List GOp:=gS 4 [.mv (.const (.pointer none))]
def c11r1 : List GOp:=gS 5 [.mv 0,.bin .lss 5 (ci 0),.mv 6]++gQ 7 false 8 [.mv 0,.bin .geq 8 (ci 20)]++gS 10 [.pick 7 (cB true) 9,.mv 10]++gQ 11 false 12 [.mv 1,.bin .lss 12 (ci 0)]++gS 14 [.pick 11 (cB true) 13,.mv 14]++gQ 15 false 16 [.mv 1,.bin .gtr 16 (ci 4000)]++gS 18 [.pick 15 (cB true) 17]
def c11r2 : List GOp:=gS 4 [.mv (.const (.pointer none))]
def c11r3 : List GOp:=gS 19 [.mv 0,.mv 1,.mkm (.int .i64) true,.mkm (.int .i64) false,.build (.agg #[oz,oz,(.map none),(.map none)]) [((0,1),19),((1,1),20),((2,1),21),((3,1),22)],.box 74 23]++gS 4 [.mv 24]
def c11 : EFn:=⟨25,.seq (.reg c11r0) (.seq (.join (.reg c11r1) (.cond 18 (.seq (.reg c11r2) (.ret)) (.skip))) (.seq (.reg c11r3) (.ret))),[.tmp 4]⟩
theorem c11_ok : compF Tryz.prog 11=some c11.er:=by kernel_rfl
set_option maxHeartbeats 8000000 in
theorem registry_New_no {P:Program}(hP:P=Tryz.prog)(show_:Int)(places:Int)(h:registry_New_b show_ places=some true):SCall P 11 [] [vIi64 show_,vIi64 places] (fun sv own'=>sv=.d (.val (.pointer none))∧own'=[]):=by
 refine .walkF 0 rfl (Nat.le_of_ble_eq_true rfl) (hP▸c11_ok) fun K hK=>?_;unfold registry_New_b at h;cbv;refine .g h (fun (v1:Bool)=>[oi show_,oi places]++rp 16 .top++[ob v1]++rp 6 .top) (fun v1=>[]) (fun y hm Kn1 hKn1=>?_) fun t h=>?_
 ·have h:=hm;clear hm;cbv;refine brkG h ?_ ?_<;>intro h
  ·cbv;obtain rfl:=oj h;exact hKn1 _ _ _ rfl (.nz (.mtE [] mx))
  ·cbv;refine brkG h ?_ ?_<;>intro h
   ·cbv;obtain rfl:=oj h;exact hKn1 _ _ _ rfl (.nz (.mtE [] mx))
   ·cbv;refine brkG h ?_ ?_<;>intro h
    ·cbv;obtain rfl:=oj h;exact hKn1 _ _ _ rfl (.nz (.mtE [] mx))
    ·cbv;obtain rfl:=oj h;exact hKn1 _ _ _ rfl (.nz (.mtE [] mx))
 obtain⟨v1,rfl⟩:=ez t;cbv;refine brkG h ?_ ?_<;>intro h
 ·cbv;exact hK _ _ [] [] mx
 ·cbv
  cases h
set_option maxHeartbeats 8000000 in
theorem registry_New_ok {P:Program}(hP:P=Tryz.prog)(show_:Int)(places:Int)(h:registry_New_b show_ places=some false):SCall P 11 [] [vIi64 show_,vIi64 places] (fun sv own'=>sv=.ptr 0 0∧own'=[.cells [oi show_,oi places,.hd 1,.hd 2] 74,.mp (.int .i64) true (WM (.int .i64) eEntry []),.mp (.int .i64) false (WM (.int .i64) eIi64 [])]):=by
 refine .walkF 0 rfl (Nat.le_of_ble_eq_true rfl) (hP▸c11_ok) fun K hK=>?_;unfold registry_New_b at h;cbv;refine .g h (fun (v1:Bool)=>[oi show_,oi places]++rp 16 .top++[ob v1]++rp 6 .top) (fun v1=>[]) (fun y hm Kn1 hKn1=>?_) fun t h=>?_
 ·have h:=hm;clear hm;cbv;refine brkG h ?_ ?_<;>intro h
  ·cbv;obtain rfl:=oj h;exact hKn1 _ _ _ rfl (.nz (.mtE [] mx))
  ·cbv;refine brkG h ?_ ?_<;>intro h
   ·cbv;obtain rfl:=oj h;exact hKn1 _ _ _ rfl (.nz (.mtE [] mx))
   ·cbv;refine brkG h ?_ ?_<;>intro h
    ·cbv;obtain rfl:=oj h;exact hKn1 _ _ _ rfl (.nz (.mtE [] mx))
    ·cbv;obtain rfl:=oj h;exact hKn1 _ _ _ rfl (.nz (.mtE [] mx))
 obtain⟨v1,rfl⟩:=ez t;cbv;refine brkG h ?_ ?_<;>intro h
 ·cbv
  cases h
 ·cbv;exact hK _ _ [] [2,0,1] mx
end Go.SX.Rg
namespace Go.SX.Rg
open Go Go.SX Go.Proofs
set_option maxRecDepth 100000
noncomputable def ref32_New_b (show_:Int)(places:Int):Option (Bool) :=
 Option.bind (
 bif (io.lt show_ 0) then (
 some true
 ) else (
 bif (io.le 20 show_) then (
 some true
 ) else (
 bif (io.lt places 0) then (
 some true
 ) else (
 some (io.lt 4000 places)
 )
 )
 )
 ) fun v1 =>
 bif v1 then (
 some true
 ) else (
 some false
 )
end Go.SX.Rg
namespace Go.SX.Rg
open Go Go.SX Go.Proofs
set_option maxRecDepth 100000
def c12r0 : List GOp:=gS 4 [.mv (.const (.pointer none))]
def c12r1 : List GOp:=gS 5 [.mv 0,.bin .lss 5 (ci 0),.mv 6]++gQ 7 false 8 [.mv 0,.bin .geq 8 (ci 20)]++gS 10 [.pick 7 (cB true) 9,.mv 10]++gQ 11 false 12 [.mv 1,.bin .lss 12 (ci 0)]++gS 14 [.pick 11 (cB true) 13,.mv 14]++gQ 15 false 16 [.mv 1,.bin .gtr 16 (ci 4000)]++gS 18 [.pick 15 (cB true) 17]
def c12r2 : List GOp:=gS 4 [.mv (.const (.pointer none))]
def c12r3 : List GOp:=gS 19 [.mv 0,.mv 1,.build (.agg #[oz,oz,(.slice none 0 0),(.slice none 0 0)]) [((0,1),19),((1,1),20)],.box 76 21]++gS 4 [.mv 22]
def c12 : EFn:=⟨23,.seq (.reg c12r0) (.seq (.join (.reg c12r1) (.cond 18 (.seq (.reg c12r2) (.ret)) (.skip))) (.seq (.reg c12r3) (.ret))),[.tmp 4]⟩
theorem c12_ok : compF Tryz.prog 12=some c12.er:=by kernel_rfl
set_option maxHeartbeats 8000000 in
theorem ref32_New_no {P:Program}(hP:P=Tryz.prog)(show_:Int)(places:Int)(h:ref32_New_b show_ places=some true):SCall P 12 [] [vIi64 show_,vIi64 places] (fun sv own'=>sv=.d (.val (.pointer none))∧own'=[]):=by
 refine .walkF 0 rfl (Nat.le_of_ble_eq_true rfl) (hP▸c12_ok) fun K hK=>?_;unfold ref32_New_b at h;cbv;refine .g h (fun (v1:Bool)=>[oi show_,oi places]++rp 16 .top++[ob v1]++rp 4 .top) (fun v1=>[]) (fun y hm Kn1 hKn1=>?_) fun t h=>?_
 ·have h:=hm;clear hm;cbv;refine brkG h ?_ ?_<;>intro h
  ·cbv;obtain rfl:=oj h;exact hKn1 _ _ _ rfl (.nz (.mtE [] mx))
  ·cbv;refine brkG h ?_ ?_<;>intro h
   ·cbv;obtain rfl:=oj h;exact hKn1 _ _ _ rfl (.nz (.mtE [] mx))
   ·cbv;refine brkG h ?_ ?_<;>intro h
    ·cbv;obtain rfl:=oj h;exact hKn1 _ _ _ rfl (.nz (.mtE [] mx))
    ·cbv;obtain rfl:=oj h;exact hKn1 _ _ _ rfl (.nz (.mtE [] mx))
 obtain⟨v1,rfl⟩:=ez t;cbv;refine brkG h ?_ ?_<;>intro h
 ·cbv;exact hK _ _ [] [] mx
 ·cbv
  cases h
set_option maxHeartbeats 8000000 in
theorem ref32_New_ok {P:Program}(hP:P=Tryz.prog)(show_:Int)(places:Int)(h:ref32_New_b show_ places=some false):SCall P 12 [] [vIi64 show_,vIi64 places] (fun sv own'=>sv=.ptr 0 0∧own'=[.cells [oi show_,oi places,.d (.sl (W eTitle [])),.d (.sl (W eIi64 []))] 76]):=by
 refine .walkF 0 rfl (Nat.le_of_ble_eq_true rfl) (hP▸c12_ok) fun K hK=>?_;unfold ref32_New_b at h;cbv;refine .g h (fun (v1:Bool)=>[oi show_,oi places]++rp 16 .top++[ob v1]++rp 4 .top) (fun v1=>[]) (fun y hm Kn1 hKn1=>?_) fun t h=>?_
 ·have h:=hm;clear hm;cbv;refine brkG h ?_ ?_<;>intro h
  ·cbv;obtain rfl:=oj h;exact hKn1 _ _ _ rfl (.nz (.mtE [] mx))
  ·cbv;refine brkG h ?_ ?_<;>intro h
   ·cbv;obtain rfl:=oj h;exact hKn1 _ _ _ rfl (.nz (.mtE [] mx))
   ·cbv;refine brkG h ?_ ?_<;>intro h
    ·cbv;obtain rfl:=oj h;exact hKn1 _ _ _ rfl (.nz (.mtE [] mx))
    ·cbv;obtain rfl:=oj h;exact hKn1 _ _ _ rfl (.nz (.mtE [] mx))
 obtain⟨v1,rfl⟩:=ez t;cbv;refine brkG h ?_ ?_<;>intro h
 ·cbv
  cases h
 ·cbv;exact hK _ _ [] [0] mx
end Go.SX.Rg
namespace Go.SX.Rg
open Go Go.SX Go.Proofs
set_option maxRecDepth 100000
noncomputable def law32_secret_g (s_:ByteArray):Option (ByteArray) :=
 Option.bind (catG (⟨#[115,101,99,114,101,116,32]⟩) s_) fun _ =>
 some (io.cat (⟨#[115,101,99,114,101,116,32]⟩) s_)
end Go.SX.Rg
namespace Go.SX.Rg
open Go Go.SX Go.Proofs
set_option maxRecDepth 100000
noncomputable def ref02_digits_l2 : (Int×ByteArray)→Option ((Int×ByteArray) ⊕ (ByteArray))
 | (n3,s4) =>
 bif (io.lt 0 n3) then (
 Option.bind (divG 10) fun _ =>
 Option.bind (divG 10) fun _ =>
 Option.bind (subS (⟨#[48,49,50,51,52,53,54,55,56,57]⟩) (io.rem n3 10) (io.ar .add .u64 (io.rem n3 10) 1)) fun z5 =>
 Option.bind (catG z5 s4) fun _ =>
 Option.bind (divG 10) fun _ =>
 some (.inl ((io.quo .u64 n3 10),(io.cat z5 s4)))
 ) else (
 some (.inr s4)
 )
noncomputable def ref02_digits_g (n:Int):Option (ByteArray) :=
 Option.bind (divG 10) fun _ =>
 Option.bind (divG 10) fun _ =>
 Option.bind (subS (⟨#[48,49,50,51,52,53,54,55,56,57]⟩) (io.rem n 10) (io.ar .add .u64 (io.rem n 10) 1)) fun z1 =>
 Option.bind (
 Option.bind (divG 10) fun _ =>
 whileG (ref02_digits_l2) ((io.quo .u64 n 10),z1)
 ) fun s2 =>
 some s2
end Go.SX.Rg
namespace Go.SX.Rg
open Go Go.SX Go.Proofs
set_option maxRecDepth 100000
noncomputable def ref02_Decimal_g (n:Int):Option (ByteArray) :=
 bif (io.lt n 0) then (
 Option.bind (ref02_digits_g (io.ar .add .u64 (io.wrap .u64 (io.neg .i64 (io.ar .add .i64 n 1))) 1)) fun v1 =>
 Option.bind (catG (⟨#[45]⟩) v1) fun _ =>
 some (io.cat (⟨#[45]⟩) v1)
 ) else (
 Option.bind (ref02_digits_g (io.wrap .u64 n)) fun v2 =>
 some v2
 )
end Go.SX.Rg
namespace Go.SX.Rg
open Go Go.SX Go.Proofs
set_option maxRecDepth 100000
noncomputable def law32_secrets_l2 (l:(List Op)):((List ByteArray)×Int)→Option (((List ByteArray)×Int) ⊕ ((List ByteArray)))
 | (out2,i3) =>
 bif (io.lt i3 (io.len (W eOp l))) then (
 Option.bind (idxG l i3) fun x4 =>
 Option.bind (ref02_Decimal_g x4.At) fun v5 =>
 Option.bind (catG (⟨#[102,105,114,115,116,32]⟩) v5) fun _ =>
 Option.bind (law32_secret_g (io.cat (⟨#[102,105,114,115,116,32]⟩) v5)) fun v6 =>
 Option.bind (idxG l i3) fun x7 =>
 Option.bind (law32_secret_g x7.Key) fun v8 =>
 Option.bind (some [v6,v8]) fun l9 =>
 Option.bind (appG out2 l9) fun out10 =>
 some (.inl (out10,(io.ar .add .i64 i3 1)))
 ) else (
 some (.inr out2)
 )
noncomputable def law32_secrets_g (l:(List Op)):Option ((List ByteArray)) :=
 Option.bind (
 whileG (law32_secrets_l2 l) ([],0)
 ) fun out1 =>
 some out1
end Go.SX.Rg
namespace Go.SX.Rg
open Go Go.SX Go.Proofs
set_option maxRecDepth 100000
def c31r0 : List GOp:=gS 2 [.mv (.const (.string ⟨#[]⟩))]
def c31r1 : List GOp:=gS 3 [.mv 0,.div .add (.const (.string ⟨#[115,101,99,114,101,116,32]⟩)) 3]++gS 2 [.mv 4]
def c31 : EFn:=⟨5,.seq (.reg c31r0) (.seq (.reg c31r1) (.ret)),[.tmp 2]⟩
theorem c31_ok : compF Tryz.prog 31=some c31.er:=by kernel_rfl
set_option maxHeartbeats 4000000 in
theorem law32_secret_R {P:Program}(hP:P=Tryz.prog)(s_:ByteArray)(r:ByteArray)(h:law32_secret_g s_=some r):Fn1 P 31 [vS s_] (vS r):=by
 refine .walkE (hP▸c31_ok) fun K hK=>?_;unfold law32_secret_g at h;cbv;refine .g h fun h=>?_;cbv;obtain rfl:=oj h;exact hK _ _ aw_
end Go.SX.Rg
namespace Go.SX.Rg
open Go Go.SX Go.Proofs
set_option maxRecDepth 100000
def c83r0 : List GOp:=gS 2 [.mv (.const (.string ⟨#[]⟩))]
def c83r1 : List GOp:=gS 4 [.mv 0,.div .rem 4 (.const (.int .u64 10)),.mv 0,.div .rem 6 (.const (.int .u64 10)),.bin .add 7 (.const (.int .u64 1)),.slcS (.const (.string ⟨#[48,49,50,51,52,53,54,55,56,57]⟩)) (some 5) (some 8)]++gS 3 [.mv 9]
def c83r2 : List GOp:=gS 10 [.mv 0,.div .quo 10 (.const (.int .u64 10))]++gS 0 [.mv 11]
def c83r3 : List GOp:=gS 12 [.mv 0,.bin .gtr 12 (.const (.int .u64 0))]
def c83r4 : List GOp:=gS 16 [.mv 0,.div .rem 16 (.const (.int .u64 10)),.mv 0,.div .rem 18 (.const (.int .u64 10)),.bin .add 19 (.const (.int .u64 1)),.slcS (.const (.string ⟨#[48,49,50,51,52,53,54,55,56,57]⟩)) (some 17) (some 20),.mv 3,.div .add 21 22]++gS 3 [.mv 23]
def c83r5 : List GOp:=gS 14 [.mv 0,.div .quo 14 (.const (.int .u64 10))]++gS 0 [.mv 15]
def c83l6 : DE:=.seq (.seq (.reg c83r3) (.cond 13 (.skip) (.exit 0))) (.seq (.block 1 (.reg c83r4)) (.reg c83r5))
def c83r7 : List GOp:=gS 24 [.mv 3]++gS 2 [.mv 24]
def c83 : EFn:=⟨25,.seq (.reg c83r0) (.seq (.reg c83r1) (.join (.seq (.reg c83r2) (.block 0 (.loop c83l6))) (.seq (.reg c83r7) (.ret)))),[.tmp 2]⟩
theorem c83_ok : compF Tryz.prog 83=some c83.er:=by kernel_rfl
set_option maxHeartbeats 4000000 in
theorem ref02_digits_R {P:Program}(hP:P=Tryz.prog)(n:Int)(r:ByteArray)(h:ref02_digits_g n=some r):Fn1 P 83 [vIu64 n] (vS r):=by
 refine .walkE (hP▸c83_ok) fun K hK=>?_;unfold ref02_digits_g at h;cbv;refine .g h fun h=>?_;cbv;refine .g h fun h=>?_;cbv;refine .g h fun z1 h=>?_;cbv;refine .g h (fun (s2:ByteArray)=>rp 3 .top++[.d (.val (.string s2))]++rp 21 .top) (fun s2=>[]) (fun y hm Kn1 hKn1=>?_) fun t h=>?_
 ·have h:=hm;clear hm;cbv;refine .g h fun h=>?_;cbv;refine .g h (fun ((n3,s4):Int×ByteArray)=>[.d (.val (.int .u64 n3)),.top,.top,.d (.val (.string s4))]++rp 21 .top) (fun (n3,s4)=>[]) (.nz (.mtE [] ?_)) fun s x h hr2 Kn2 hKn2=>?_
  ·exact mx
  unfold ref02_digits_l2 at h;obtain⟨n3,s4⟩:=s;cbv;refine brkG h ?_ ?_<;>intro h
  ·cbv;refine .g h fun h=>?_;cbv;refine .g h fun h=>?_;cbv;refine .g h fun z5 h=>?_;cbv;refine .g h fun h=>?_;cbv;refine .g h fun h=>?_;cbv;obtain rfl:=oj h;exact hKn2 _ _ _ rfl (.nz (.mtE [] mx))
  ·cbv;obtain rfl:=oj h;obtain rfl:=hr2 _ rfl;exact hKn1 _ _ _ rfl (.nz (.mtE [] mx))
 obtain⟨s2,rfl⟩:=ez t;cbv;obtain rfl:=oj h;exact hK _ _ aw_
end Go.SX.Rg
namespace Go.SX.Rg
open Go Go.SX Go.Proofs
set_option maxRecDepth 100000
def c47r0 : List GOp:=gS 2 [.mv (.const (.string ⟨#[]⟩))]
def c47r1 : List GOp:=gS 3 [.mv 0,.bin .lss 3 (ci 0)]
def c47r2 : List GOp:=gS 5 [.mv 0,.bin .add 5 (ci 1),.un .neg 6,.cvi .u64 7,.bin .add 8 (.const (.int .u64 1)),.call 83 [9],.div .add (.const (.string ⟨#[45]⟩)) 10]++gS 2 [.mv 11]
def c47r3 : List GOp:=gS 12 [.mv 0,.cvi .u64 12,.call 83 [13]]++gS 2 [.mv 14]
def c47 : EFn:=⟨15,.seq (.reg c47r0) (.seq (.seq (.reg c47r1) (.cond 4 (.seq (.reg c47r2) (.ret)) (.skip))) (.seq (.reg c47r3) (.ret))),[.tmp 2]⟩
theorem c47_ok : compF Tryz.prog 47=some c47.er:=by kernel_rfl
set_option maxHeartbeats 4000000 in
theorem ref02_Decimal_R {P:Program}(hP:P=Tryz.prog)(n:Int)(r:ByteArray)(h:ref02_Decimal_g n=some r):Fn1 P 47 [vIi64 n] (vS r):=by
 refine .walkE (hP▸c47_ok) fun K hK=>?_;unfold ref02_Decimal_g at h;cbv;refine brkG h ?_ ?_<;>intro h
 ·cbv;refine .g h (fun v hv=>ref02_digits_R hP _ v hv) aw_ rfl (fun _=>rfl) fun v1 h=>?_;cbv;refine .g h fun h=>?_;cbv;obtain rfl:=oj h;exact hK _ _ aw_
 ·cbv;refine .g h (fun v hv=>ref02_digits_R hP _ v hv) aw_ rfl (fun _=>rfl) fun v2 h=>?_;cbv;obtain rfl:=oj h;exact hK _ _ aw_
end Go.SX.Rg
namespace Go.SX.Rg
open Go Go.SX Go.Proofs
set_option maxRecDepth 100000
def c13r0 : List GOp:=gS 2 [.mv cn]
def c13r1 : List GOp:=gS 3 [.mv cn]
def c13r2 : List GOp:=gS 4 [.mv (ci 0)]
def c13r3 : List GOp:=gS 5 [.mv 4,.mv 0,.len false 6,.bin .lss 5 7]
def c13r4 : List GOp:=gS 11 [.mv 3,.mv 0,.mv 4,.idxA 5 12 13,.fadd 2 14,.load 1 false 15,.call 47 [16],.div .add (.const (.string ⟨#[102,105,114,115,116,32]⟩)) 17,.call 31 [18],.mv 0,.mv 4,.idxA 5 20 21,.fadd 3 22,.load 1 false 23,.call 31 [24],.bslice 9 1 2 (.string ⟨#[]⟩) [(0,19),(1,25)]]
def c13r4z : List GOp:=gS 27 [.app 9 1 16 (.string ⟨#[]⟩) 11 26]++gS 3 [.mv 27]
def c13r5 : List GOp:=gS 9 [.mv 4,.bin .add 9 (ci 1)]++gS 4 [.mv 10]
def c13l6 : DE:=.seq (.seq (.reg c13r3) (.cond 8 (.skip) (.exit 0))) (.seq (.block 1 (.sfx false false false true c13r4 c13r4z)) (.reg c13r5))
def c13r7 : List GOp:=gS 28 [.mv 3]++gS 2 [.mv 28]
def c13 : EFn:=⟨29,.seq (.reg c13r0) (.seq (.reg c13r1) (.join (.seq (.reg c13r2) (.block 0 (.loop c13l6))) (.seq (.reg c13r7) (.ret)))),[.tmp 2]⟩
theorem c13_ok : compF Tryz.prog 13=some c13.er:=by kernel_rfl
set_option maxHeartbeats 4000000 in
theorem law32_secrets_R {P:Program}(hP:P=Tryz.prog)(l:(List Op))(r:(List ByteArray))(h:law32_secrets_g l=some r):Fn1 P 13 [vLOp l] (vLS r):=by
 refine .walkE (hP▸c13_ok) fun K hK=>?_;unfold law32_secrets_g at h;cbv;refine .g h (fun (out1:(List ByteArray))=>rp 3 .top++[.hd 0]++rp 25 .top) (fun out1=>[rA out1]) (fun y hm Kn1 hKn1=>?_) fun t h=>?_
 ·have h:=hm;clear hm;cbv;refine .g h (fun ((out2,i3):(List ByteArray)×Int)=>[dq eOp l,.top,.top,.hd 0,oi i3]++rp 24 .top) (fun (out2,i3)=>[rA out2]) (.nilr 3 9 1 rfl (.nz (.mtE [0] ?_))) fun s x h hr2 Kn2 hKn2=>?_
  ·exact mx
  unfold law32_secrets_l2 at h;obtain⟨out2,i3⟩:=s;cbv;refine brkG h ?_ ?_<;>intro h
  ·cbv;refine .g h (fun _=>rfl) fun x4 h=>?_;cbv;refine .g h (fun v hv=>ref02_Decimal_R hP _ v hv) aw_ rfl (fun _=>rfl) fun v5 h=>?_;cbv;refine .g h fun h=>?_;cbv;refine .g h (fun v hv=>law32_secret_R hP _ v hv) aw_ rfl (fun _=>rfl) fun v6 h=>?_;cbv;refine .g h (fun _=>rfl) fun x7 h=>?_;cbv;refine .g h (fun v hv=>law32_secret_R hP _ v hv) aw_ rfl (fun _=>rfl) fun v8 h=>?_;cbv;refine .g (e:=eS) h (W_cons aw_ (W_cons aw_ (W_nil' _))) fun l9 h=>?_;cbv;refine .g h rfl (fun _=>rfl) (by decide) fun out10 h=>?_;cbv;obtain rfl:=oj h;exact hKn2 _ _ _ rfl (.nz (.mtE [1] mx))
  ·cbv;obtain rfl:=oj h;obtain rfl:=hr2 _ rfl;exact hKn1 _ _ _ rfl (.nz (.mtE [0] mx))
 obtain⟨out1,rfl⟩:=ez t;cbv;obtain rfl:=oj h;exact hK _ _ aw_
end Go.SX.Rg
namespace Go.SX.Rg
open Go Go.SX Go.Proofs
set_option maxRecDepth 100000
noncomputable def registry_Registry_Title_b (show0:Int)(places0:Int)(titles0:(List (Int×Entry)))(at0:(List (Int×Int)))(serial:Int):Option (Title×Int×Int) :=
 optG (mlook titles0 serial) (fun y1 =>
 some (y1.Title,y1.gone,0)
 ) (
 some ((Title.mk 0 0 0 (⟨#[]⟩) []),0,11)
 )
noncomputable def registry_Registry_Title_nil_g (serial:Int):Option (Title×Int×Int) :=
 some ((Title.mk 0 0 0 (⟨#[]⟩) []),0,1)
end Go.SX.Rg
namespace Go.SX.Rg
open Go Go.SX Go.Proofs
set_option maxRecDepth 100000
def c14r0 : List GOp:=gS 4 [.alloc 35 (.agg #[oz,oz,oz,(.string ⟨#[]⟩),(.slice none 0 0)]),.mv (ci 0),.mv (ci 0)]
def c14r1 : List GOp:=gS 9 [.mv 0,.pnil false 9]
def c14r2 : List GOp:=gS 11 [.build (.agg #[oz,oz,oz,(.string ⟨#[]⟩),(.slice none 0 0)]) []]++[⟨none,.store 5 4 11,none⟩]++gS 5 [.mv (ci 0),.mv (ci 1)]
def c14r3 : List GOp:=gS 13 [.mv 0,.nilck 13,.fadd 2 14,.load 1 false 15,.mv 1,.mget (.int .i64) true true (.agg #[oz,oz,oz,(.string ⟨#[]⟩),(.slice none 0 0),oz]) 16 17]++gS 12 [.mv 18]++gS 19 [.ext 12 0,.ext 12 1]++gS 7 [.alloc 78 (.agg #[oz,oz,oz,(.string ⟨#[]⟩),(.slice none 0 0),oz])]++[⟨none,.store 6 7 19,none⟩]++gS 8 [.mv 20]
def c14r4 : List GOp:=gS 21 [.mv 8,.un .not 21]
def c14r5 : List GOp:=gS 23 [.build (.agg #[oz,oz,oz,(.string ⟨#[]⟩),(.slice none 0 0)]) []]++[⟨none,.store 5 4 23,none⟩]++gS 5 [.mv (ci 0),.mv (ci 11)]
def c14r6 : List GOp:=gS 24 [.fadd 0 7,.load 5 true 24,.fadd 5 7,.load 1 false 26]++[⟨none,.store 5 4 25,none⟩]++gS 5 [.mv 27,.mv (ci 0)]
def c14 : EFn:=⟨28,.seq (.reg c14r0) (.seq (.seq (.reg c14r1) (.cond 10 (.seq (.reg c14r2) (.ret)) (.skip))) (.seq (.reg c14r3) (.seq (.seq (.reg c14r4) (.cond 22 (.seq (.reg c14r5) (.ret)) (.skip))) (.seq (.hys true true true 5 c14r6) (.ret))))),[.cell 4 5 true,.tmp 5,.tmp 6]⟩
theorem c14_ok : compF Tryz.prog 14=some c14.er:=by kernel_rfl
set_option maxHeartbeats 8000000 in
theorem registry_Registry_Title_R {P:Program}(hP:P=Tryz.prog)(show0:Int)(places0:Int)(titles0:(List (Int×Entry)))(at0:(List (Int×Int)))(serial:Int)(r:Title×Int×Int)(h:registry_Registry_Title_b show0 places0 titles0 at0 serial=some r):SCall P 14 [.cells [oi show0,oi places0,.hd 1,.hd 2] 74,.mp (.int .i64) true (WM (Value.int .i64) eEntry titles0),.mp (.int .i64) false (WM (Value.int .i64) eIi64 at0)] [.ptr 0 0,oi serial] (fun sv own'=>sv=.tup [.agg [oi r.1.Serial,oi r.1.Show,oi r.1.Place,.d (.val (.string r.1.First)),dq eTransfer r.1.Chain],oi r.2.1,oi r.2.2]∧own'=[.cells [oi show0,oi places0,.hd 1,.hd 2] 74,.mp (.int .i64) true (WM (Value.int .i64) eEntry titles0),.mp (.int .i64) false (WM (Value.int .i64) eIi64 at0)]):=by
 refine .walkF 3 rfl (Nat.le_of_ble_eq_true rfl) (hP▸c14_ok) fun K hK=>?_;unfold registry_Registry_Title_b at h;cbv;refine .oi (e:=eEntry) h (by first | rfl | exact WM_nil' _ _) (fun y1 h=>?_) (fun h=>?_)
 ·cbv;refine brkF io_nt ?_;cbv;refine .g [3] ?_;cbv;obtain rfl:=oj h;exact hK _ _ [] [0,1,2] mx
 ·cbv;refine brkT io_nf ?_;cbv;obtain rfl:=oj h;exact hK _ _ [] [0,1,2] mx
set_option maxHeartbeats 4000000 in
theorem registry_Registry_Title_nil_R {P:Program}(hP:P=Tryz.prog)(serial:Int)(r:Title×Int×Int)(h:registry_Registry_Title_nil_g serial=some r):Fn1 P 14 [.d (.val (.pointer none)),vIi64 serial] (.tup [vTitle r.1,vIi64 r.2.1,vIi64 r.2.2]):=by
 refine .walkE2 (hP▸c14_ok) fun K hK=>?_;unfold registry_Registry_Title_nil_g at h;cbv;obtain rfl:=oj h;exact hK _ _ aw_
end Go.SX.Rg
namespace Go.SX.Rg
open Go Go.SX Go.Proofs
set_option maxRecDepth 100000
noncomputable def math_bits_Mul64_g (x_:Int)(y_:Int):Option (Int×Int) :=
 some ((io.ar .add .u64 (io.ar .add .u64 (io.ar .mul .u64 (io.shr .u64 x_ (.ofNat 32)) (io.shr .u64 y_ (.ofNat 32))) (io.shr .u64 (io.ar .add .u64 (io.ar .mul .u64 (io.shr .u64 x_ (.ofNat 32)) (io.ar .and .u64 y_ 4294967295)) (io.shr .u64 (io.ar .mul .u64 (io.ar .and .u64 x_ 4294967295) (io.ar .and .u64 y_ 4294967295)) (.ofNat 32))) (.ofNat 32))) (io.shr .u64 (io.ar .add .u64 (io.ar .and .u64 (io.ar .add .u64 (io.ar .mul .u64 (io.shr .u64 x_ (.ofNat 32)) (io.ar .and .u64 y_ 4294967295)) (io.shr .u64 (io.ar .mul .u64 (io.ar .and .u64 x_ 4294967295) (io.ar .and .u64 y_ 4294967295)) (.ofNat 32))) 4294967295) (io.ar .mul .u64 (io.ar .and .u64 x_ 4294967295) (io.shr .u64 y_ (.ofNat 32)))) (.ofNat 32))),(io.ar .mul .u64 x_ y_))
end Go.SX.Rg
namespace Go.SX.Rg
open Go Go.SX Go.Proofs
set_option maxRecDepth 100000
def c108r0 : List GOp:=gS 4 [.mv (.const (.int .u64 0)),.mv (.const (.int .u64 0))]
def c108r1 : List GOp:=gS 14 [.mv 0,.bin .and 14 (.const (.int .u64 4294967295))]++gS 6 [.mv 15]
def c108r2 : List GOp:=gS 16 [.mv 0,.bin .shr 16 (.const (.int .u64 32))]++gS 7 [.mv 17]
def c108r3 : List GOp:=gS 18 [.mv 1,.bin .and 18 (.const (.int .u64 4294967295))]++gS 8 [.mv 19]
def c108r4 : List GOp:=gS 20 [.mv 1,.bin .shr 20 (.const (.int .u64 32))]++gS 9 [.mv 21]
def c108r5 : List GOp:=gS 22 [.mv 6,.mv 8,.bin .mul 22 23]++gS 10 [.mv 24]
def c108r6 : List GOp:=gS 25 [.mv 7,.mv 8,.bin .mul 25 26,.mv 10,.bin .shr 28 (.const (.int .u64 32)),.bin .add 27 29]++gS 11 [.mv 30]
def c108r7 : List GOp:=gS 31 [.mv 11,.bin .and 31 (.const (.int .u64 4294967295))]++gS 12 [.mv 32]
def c108r8 : List GOp:=gS 33 [.mv 11,.bin .shr 33 (.const (.int .u64 32))]++gS 13 [.mv 34]
def c108r9 : List GOp:=gS 35 [.mv 12,.mv 6,.mv 9,.bin .mul 36 37,.bin .add 35 38]++gS 12 [.mv 39]
def c108r10 : List GOp:=gS 40 [.mv 7,.mv 9,.bin .mul 40 41,.mv 13,.bin .add 42 43,.mv 12,.bin .shr 45 (.const (.int .u64 32)),.bin .add 44 46]++gS 4 [.mv 47]
def c108r11 : List GOp:=gS 48 [.mv 0,.mv 1,.bin .mul 48 49]++gS 5 [.mv 50]
def c108 : EFn:=⟨51,.seq (.reg c108r0) (.seq (.reg c108r1) (.seq (.reg c108r2) (.seq (.reg c108r3) (.seq (.reg c108r4) (.seq (.reg c108r5) (.seq (.reg c108r6) (.seq (.reg c108r7) (.seq (.reg c108r8) (.seq (.reg c108r9) (.seq (.reg c108r10) (.seq (.reg c108r11) (.ret)))))))))))),[.tmp 4,.tmp 5]⟩
theorem c108_ok : compF Tryz.prog 108=some c108.er:=by kernel_rfl
set_option maxHeartbeats 4000000 in
theorem math_bits_Mul64_R {P:Program}(hP:P=Tryz.prog)(x_:Int)(y_:Int)(r:Int×Int)(h:math_bits_Mul64_g x_ y_=some r):Fn1 P 108 [vIu64 x_,vIu64 y_] (.tup [vIu64 r.1,vIu64 r.2]):=by
 refine .walkE (hP▸c108_ok) fun K hK=>?_;unfold math_bits_Mul64_g at h;cbv;obtain rfl:=oj h;exact hK _ _ aw_
end Go.SX.Rg
namespace Go.SX.Rg
open Go Go.SX Go.Proofs
set_option maxRecDepth 100000
noncomputable def sign_Public_c1_g (p0:Int):Option (Int) :=
 some 15
end Go.SX.Rg
namespace Go.SX.Rg
open Go Go.SX Go.Proofs
set_option maxRecDepth 100000
def c56r0 : List GOp:=gS 2 [.mv (ci 0)]
def c56r1 : List GOp:=gS 2 [.mv (ci 15)]
def c56 : EFn:=⟨3,.seq (.reg c56r0) (.seq (.reg c56r1) (.ret)),[.tmp 2]⟩
theorem c56_ok : compF Tryz.prog 56=some c56.er:=by kernel_rfl
set_option maxHeartbeats 4000000 in
theorem sign_Public_c1_R {P:Program}(hP:P=Tryz.prog)(p0:Int)(r:Int)(h:sign_Public_c1_g p0=some r):Fn1 P 56 [vIi64 p0] (vIi64 r):=by
 refine .walkE (hP▸c56_ok) fun K hK=>?_;unfold sign_Public_c1_g at h;cbv;obtain rfl:=oj h;exact hK _ _ aw_
end Go.SX.Rg
namespace Go.SX.Rg
open Go Go.SX Go.Proofs
set_option maxRecDepth 100000
noncomputable def title_Owner_g (t_:Title):Option (ByteArray) :=
 bif (io.lt 0 (io.len (W eTransfer t_.Chain))) then (
 Option.bind (idxG t_.Chain (io.ar .sub .i64 (io.len (W eTransfer t_.Chain)) 1)) fun x1 =>
 some x1.To
 ) else (
 some t_.First
 )
end Go.SX.Rg
namespace Go.SX.Rg
open Go Go.SX Go.Proofs
set_option maxRecDepth 100000
noncomputable def slices_CloneW_g (s_:(List Transfer)):Option ((List Transfer)) :=
 nilQ s_ fun b1 =>
 bif b1 then (
 some []
 ) else (
 Option.bind (some ([]:List Transfer)) fun l2 =>
 Option.bind (appG l2 s_) fun l3 =>
 some l3
 )
end Go.SX.Rg
namespace Go.SX.Rg
open Go Go.SX Go.Proofs
set_option maxRecDepth 100000
noncomputable def slices_Clone_2_g (s_:(List ByteArray)):Option ((List ByteArray)) :=
 nilQ s_ fun b1 =>
 bif b1 then (
 some []
 ) else (
 Option.bind (some ([]:List ByteArray)) fun l2 =>
 Option.bind (appG l2 s_) fun l3 =>
 some l3
 )
end Go.SX.Rg
namespace Go.SX.Rg
open Go Go.SX Go.Proofs
set_option maxRecDepth 100000
noncomputable def title_used_l2 (t_:Title)(key:ByteArray):Int→Option ((Int) ⊕ ((Unit) ⊕ (Bool)))
 | v1 =>
 bif (io.lt v1 (io.len (W eTransfer t_.Chain))) then (
 Option.bind (
 Option.bind (idxG t_.Chain v1) fun x3 =>
 some (io.seq x3.To key)
 ) fun v2 =>
 bif v2 then (
 some (.inr (.inr (io.le 0 v1)))
 ) else (
 some (.inl (io.ar .add .i64 v1 1))
 )
 ) else (
 some (.inr (.inl ()))
 )
noncomputable def title_used_g (t_:Title)(key:ByteArray):Option (Bool) :=
 bif (io.seq t_.First key) then (
 some true
 ) else (
 orR (
 whileG (title_used_l2 t_ key) 0
 ) fun _ =>
 some (io.le 0 (-1))
 )
end Go.SX.Rg
namespace Go.SX.Rg
open Go Go.SX Go.Proofs
set_option maxRecDepth 100000
def c98r0 : List GOp:=gS 4 [.mv (cB false)]
def c98r1 : List GOp:=gS 5 [.mv 0,.mv 1,.call 122 [5,6],.bin .geq 7 (ci 0)]++gS 4 [.mv 8]
def c98 : EFn:=⟨9,.seq (.reg c98r0) (.seq (.reg c98r1) (.ret)),[.tmp 4]⟩
theorem c98_ok : compF Tryz.prog 98=some c98.er:=by kernel_rfl
def c122r0 : List GOp:=gS 4 [.mv (ci 0)]
def c122r1 : List GOp:=gS 6 [.mv 0,.len false 6,.mv (ci 0)]
def c122r2 : List GOp:=gS 9 [.bin .lss 8 7]
def c122r3 : List GOp:=gS 10 [.mv 8]++gS 5 [.mv 10]
def c122r4 : List GOp:=gS 11 [.mv 1,.mv 0,.mv 5,.idxA 2 12 13,.load 2 true 14,.callv 11 [15]]
def c122r5 : List GOp:=gS 17 [.mv 5]++gS 4 [.mv 17]
def c122r6 : List GOp:=gS 18 [.bin .add 8 (ci 1)]++gS 8 [.mv 18]
def c122l7 : DE:=.seq (.reg c122r2) (.seq (.cond 9 (.skip) (.exit 0)) (.seq (.block 1 (.seq (.reg c122r3) (.join (.reg c122r4) (.cond 16 (.seq (.reg c122r5) (.ret)) (.skip))))) (.reg c122r6)))
def c122r8 : List GOp:=gS 4 [.mv (ci (-1))]
def c122 : EFn:=⟨19,.seq (.reg c122r0) (.join (.seq (.reg c122r1) (.block 0 (.loop c122l7))) (.seq (.reg c122r8) (.ret))),[.tmp 4]⟩
theorem c122_ok : compF Tryz.prog 122=some c122.er:=by kernel_rfl
def c99r0 : List GOp:=gS 2 [.box 46 0,.mv (cB false)]
def c99r1 : List GOp:=gS 4 [.fadd 0 2,.load 1 false 4,.load 1 false 1,.bin .eql 5 6]++gS 3 [.mv 7]
def c99 : EFn:=⟨8,.seq (.reg c99r0) (.seq (.reg c99r1) (.ret)),[.tmp 3]⟩
theorem c99_ok : compF Tryz.prog 99=some c99.er:=by kernel_rfl
def c58r0 : List GOp:=gS 2 [.box 35 0,.box 9 1,.mv (cB false)]
def c58r1 : List GOp:=gS 5 [.fadd 3 2,.load 1 false 5,.load 1 false 3,.bin .eql 6 7,.mv 8]++gQ 9 false 10 [.fadd 4 2,.load 1 false 10,.mkfn (.func 99) [] [3],.call 98 [11,12]]++gS 14 [.pick 9 (cB true) 13]++gS 4 [.mv 14]
def c58 : EFn:=⟨15,.seq (.reg c58r0) (.seq (.reg c58r1) (.ret)),[.tmp 4]⟩
theorem c58_ok : compF Tryz.prog 58=some c58.er:=by kernel_rfl
set_option maxHeartbeats 4000000 in
theorem title_used_R {P:Program}(hP:P=Tryz.prog)(t_:Title)(key:ByteArray)(r:Bool)(h:title_used_g t_ key=some r):Fn1 P 58 [vTitle t_,vS key] (vB r):=by
 refine .walkE (hP▸c58_ok) fun K hK=>?_;unfold title_used_g at h;cbv;refine brkG h ?_ ?_<;>intro h
 ·cbv;obtain rfl:=oj h;exact hK _ _ aw_
 ·cbv;refine .inl (hP▸c98_ok) ?_;cbv;refine .inl (hP▸c122_ok) ?_;cbv;refine .ga h (fun (_:Unit)=>rp 19 .top) (fun _=>[.cells [oi t_.Serial,oi t_.Show,oi t_.Place,.d (.val (.string t_.First)),dq eTransfer t_.Chain] 35,.cells [.d (.val (.string key))] 9]) (fun y hm hr1 Kn1 hKn1=>?_) fun t h=>?_
  ·have h:=hm;clear hm;cbv;refine .g h (fun (v1:Int)=>[dq eTransfer t_.Chain,.clo (.func 99) [] [.ptr 1 0]]++rp 5 .top++[oi (io.len (W eTransfer t_.Chain)),oi v1]++rp 10 .top) (fun v1=>[.cells [oi t_.Serial,oi t_.Show,oi t_.Place,.d (.val (.string t_.First)),dq eTransfer t_.Chain] 35,.cells [.d (.val (.string key))] 9]) (.nz (.mtE [0,1] ?_)) fun s x h hr2 Kn2 hKn2=>?_
   ·exact mx
   unfold title_used_l2 at h;obtain⟨v1,rfl⟩:=ez s;cbv;refine brkG h ?_ ?_<;>intro h
   ·cbv;refine .g h (fun (v2:Bool)=>[dq eTransfer t_.Chain,.clo (.func 99) [] [.ptr 1 0]]++rp 3 .top++[oi v1,.top,oi (io.len (W eTransfer t_.Chain)),oi v1]++rp 7 .top++[ob v2,.top,.top]) (fun v2=>[.cells [oi t_.Serial,oi t_.Show,oi t_.Place,.d (.val (.string t_.First)),dq eTransfer t_.Chain] 35,.cells [.d (.val (.string key))] 9]) (fun y hm Kn3 hKn3=>?_) fun t h=>?_
    ·have h:=hm;clear hm;cbv;refine .g h (fun _=>rfl) fun x3 h=>?_;cbv;refine .inl (hP▸c99_ok) ?_;cbv;obtain rfl:=oj h;exact hKn3 _ _ _ rfl (.nz (.mtE [0,1] mx))
    obtain⟨v2,rfl⟩:=ez t;cbv;refine brkG h ?_ ?_<;>intro h
    ·cbv;obtain rfl:=oj h;obtain rfl:=hr2 _ rfl;obtain rfl:=hr1 _ rfl;exact hK _ _ aw_
    ·cbv;obtain rfl:=oj h;exact hKn2 _ _ _ rfl (.nz (.mtE [0,1] mx))
   ·cbv;obtain rfl:=oj h;obtain rfl:=hr2 _ rfl;exact hKn1 _ _ _ rfl (.nz (.mtE [0,1] mx))
  cbv;obtain rfl:=oj h;exact hK _ _ aw_
end Go.SX.Rg
namespace Go.SX.Rg
open Go Go.SX Go.Proofs
set_option maxRecDepth 100000
def c35r0 : List GOp:=gS 1 [.box 35 0,.mv (.const (.string ⟨#[]⟩))]
def c35r1 : List GOp:=gS 4 [.fadd 4 1,.load 1 false 4,.len false 5]++gS 3 [.mv 6]
def c35r2 : List GOp:=gS 7 [.mv 3,.bin .gtr 7 (ci 0)]
def c35r3 : List GOp:=gS 9 [.fadd 4 1,.load 1 false 9,.mv 3,.bin .sub 11 (ci 1),.idxA 2 10 12,.fadd 0 13,.load 1 false 14]++gS 2 [.mv 15]
def c35r4 : List GOp:=gS 16 [.fadd 3 1,.load 1 false 16]++gS 2 [.mv 17]
def c35 : EFn:=⟨18,.seq (.reg c35r0) (.seq (.seq (.reg c35r1) (.seq (.reg c35r2) (.cond 8 (.seq (.reg c35r3) (.ret)) (.skip)))) (.seq (.reg c35r4) (.ret))),[.tmp 2]⟩
theorem c35_ok : compF Tryz.prog 35=some c35.er:=by kernel_rfl
set_option maxHeartbeats 4000000 in
theorem title_Owner_R {P:Program}(hP:P=Tryz.prog)(t_:Title)(r:ByteArray)(h:title_Owner_g t_=some r):Fn1 P 35 [vTitle t_] (vS r):=by
 refine .walkE (hP▸c35_ok) fun K hK=>?_;unfold title_Owner_g at h;cbv;refine brkG h ?_ ?_<;>intro h
 ·cbv;refine .g h (fun _=>rfl) fun x1 h=>?_;cbv;obtain rfl:=oj h;exact hK _ _ aw_
 ·cbv;obtain rfl:=oj h;exact hK _ _ aw_
end Go.SX.Rg
namespace Go.SX.Rg
open Go Go.SX Go.Proofs
set_option maxRecDepth 100000
noncomputable def registry_Registry_Move_b (show0:Int)(places0:Int)(titles0:(List (Int×Entry)))(at0:(List (Int×Int)))(serial:Int)(place:Int):Option (Int×(List (Int×Entry))×(List (Int×Int))) :=
 Option.bind (
 bif (io.lt place (-1)) then (
 some true
 ) else (
 some (io.le places0 place)
 )
 ) fun v1 =>
 bif v1 then (
 some (1,titles0,at0)
 ) else (
 optG (mlook titles0 serial) (fun y2 =>
 bif (io.lt 0 y2.gone) then (
 some (27,titles0,at0)
 ) else (
 Option.bind (
 Option.bind (some (mlookD at0 place 0)) fun y5 =>
 Option.bind (
 bif (io.not (io.eq y5 0)) then (
 some (io.not (io.eq y5 serial))
 ) else (
 some false
 )
 ) fun v6 =>
 bif v6 then (
 some (y2.Title.Place,16)
 ) else (
 some (place,0)
 )
 ) fun (Place3,e4) =>
 bif (io.not (io.eq e4 0)) then (
 some (e4,titles0,at0)
 ) else (
 Option.bind (some (mputG titles0 serial (Entry.mk (Title.mk y2.Title.Serial y2.Title.Show Place3 y2.Title.First y2.Title.Chain) y2.gone))) fun m7 =>
 Option.bind (
 bif (io.le 0 y2.Title.Place) then (
 Option.bind (some (mdelG at0 y2.Title.Place)) fun m9 =>
 some m9
 ) else (
 some at0
 )
 ) fun own8 =>
 Option.bind (
 bif (io.le 0 Place3) then (
 some (io.eq y2.gone 0)
 ) else (
 some false
 )
 ) fun v10 =>
 bif v10 then (
 Option.bind (some (mputG own8 Place3 serial)) fun m11 =>
 some (0,m7,m11)
 ) else (
 some (0,m7,own8)
 )
 )
 )
 ) (
 some (11,titles0,at0)
 )
 )
noncomputable def registry_Registry_Move_nil_g (serial:Int)(place:Int):Option (Int) :=
 Option.bind (
 some ()
 ) fun _ =>
 some 1
end Go.SX.Rg
namespace Go.SX.Rg
open Go Go.SX Go.Proofs
set_option maxRecDepth 100000
noncomputable def registry_Registry_Revoke_b (show0:Int)(places0:Int)(titles0:(List (Int×Entry)))(at0:(List (Int×Int)))(serial:Int)(now:Int):Option (Int×(List (Int×Entry))×(List (Int×Int))) :=
 Option.bind (
 bif (io.lt now 1) then (
 some true
 ) else (
 some (io.lt 1000000000 now)
 )
 ) fun v1 =>
 bif v1 then (
 some (1,titles0,at0)
 ) else (
 optG (mlook titles0 serial) (fun y2 =>
 bif (io.lt 0 y2.gone) then (
 some (27,titles0,at0)
 ) else (
 Option.bind (
 some ()
 ) fun _ =>
 bif (io.not (io.eq 0 0)) then (
 some (0,titles0,at0)
 ) else (
 Option.bind (some (mputG titles0 serial (Entry.mk y2.Title now))) fun m3 =>
 Option.bind (
 bif (io.le 0 y2.Title.Place) then (
 Option.bind (some (mdelG at0 y2.Title.Place)) fun m5 =>
 some m5
 ) else (
 some at0
 )
 ) fun own4 =>
 Option.bind (
 bif (io.le 0 y2.Title.Place) then (
 some (io.eq now 0)
 ) else (
 some false
 )
 ) fun v6 =>
 bif v6 then (
 Option.bind (some (mputG own4 y2.Title.Place serial)) fun m7 =>
 some (0,m3,m7)
 ) else (
 some (0,m3,own4)
 )
 )
 )
 ) (
 some (11,titles0,at0)
 )
 )
noncomputable def registry_Registry_Revoke_nil_g (serial:Int)(now:Int):Option (Int) :=
 Option.bind (
 bif (io.lt now 1) then (
 some true
 ) else (
 some (io.lt 1000000000 now)
 )
 ) fun v1 =>
 bif v1 then (
 some 1
 ) else (
 some 1
 )
end Go.SX.Rg
namespace Go.SX.Rg
open Go Go.SX Go.Proofs
set_option maxRecDepth 100000
def c60r0 : List GOp:=gS 6 [.mv (ci 0)]
def c60r1 : List GOp:=gS 11 [.mv 0,.pnil false 11]
def c60r2 : List GOp:=gS 6 [.mv (ci 1)]
def c60r3 : List GOp:=gS 14 [.mv 0,.nilck 14,.fadd 2 15,.load 1 false 16,.mv 1,.mget (.int .i64) true true (.agg #[oz,oz,oz,(.string ⟨#[]⟩),(.slice none 0 0),oz]) 17 18]++gS 13 [.mv 19]++gS 20 [.ext 13 0,.ext 13 1]++gS 7 [.alloc 78 (.agg #[oz,oz,oz,(.string ⟨#[]⟩),(.slice none 0 0),oz])]++[⟨none,.store 6 7 20,none⟩]++gS 8 [.mv 21]
def c60r4 : List GOp:=gS 23 [.mv 8,.un .not 23]++gS 22 [.mv 24]
def c60r5 : List GOp:=gS 6 [.mv (ci 11)]
def c60r6 : List GOp:=gS 26 [.fadd 5 7,.load 1 false 26,.bin .gtr 27 (ci 0)]++gS 25 [.mv 28]
def c60r7 : List GOp:=gS 6 [.mv (ci 27)]
def c60r8 : List GOp:=gS 29 [.fadd 0 7,.fadd 2 29,.load 1 false 30]++gS 9 [.mv 31]
def c60r9 : List GOp:=gS 32 [.mv 2,.callv 32 [7]]++gS 10 [.mv 33]
def c60r10 : List GOp:=gS 34 [.mv 10,.bin .neq 34 (ci 0)]
def c60r11 : List GOp:=gS 36 [.mv 10]++gS 6 [.mv 36]
def c60r12 : List GOp:=gS 37 [.mv 0,.nilck 37,.fadd 2 38,.load 1 false 39,.mv 1,.load 6 true 7]
def c60r12z : List GOp:=[⟨none,.mset (.int .i64) true 40 41 42,none⟩]
def c60r13 : List GOp:=gS 43 [.mv 9,.bin .geq 43 (ci 0)]
def c60r14 : List GOp:=gS 45 [.mv 0,.nilck 45,.fadd 3 46,.load 1 false 47,.mv 9]++[⟨none,.mdel (.int .i64) 48 49,none⟩]
def c60r15 : List GOp:=gS 50 [.fadd 0 7,.fadd 2 50,.load 1 false 51,.bin .geq 52 (ci 0),.mv 53]++gQ 54 true 55 [.fadd 5 7,.load 1 false 55,.bin .eql 56 (ci 0)]++gS 58 [.pick 54 57 (cB false)]
def c60r16 : List GOp:=gS 59 [.mv 0,.nilck 59,.fadd 3 60,.load 1 false 61,.fadd 0 7,.fadd 2 63,.load 1 false 64,.mv 1]
def c60r16z : List GOp:=[⟨none,.mset (.int .i64) false 62 65 66,none⟩]
def c60r17 : List GOp:=gS 6 [.mv (ci 0)]
def c60 : EFn:=⟨67,.seq (.reg c60r0) (.seq (.seq (.reg c60r1) (.cond 12 (.seq (.reg c60r2) (.ret)) (.skip))) (.seq (.reg c60r3) (.seq (.block 0 (.seq (.reg c60r4) (.cond 22 (.seq (.reg c60r5) (.ret)) (.seq (.reg c60r6) (.cond 25 (.seq (.reg c60r7) (.ret)) (.skip)))))) (.seq (.reg c60r8) (.seq (.join (.reg c60r9) (.seq (.reg c60r10) (.cond 35 (.seq (.reg c60r11) (.ret)) (.skip)))) (.seq (.sfx true true true true c60r12 c60r12z) (.join (.seq (.reg c60r13) (.cond 44 (.reg c60r14) (.skip))) (.seq (.join (.reg c60r15) (.cond 58 (.sfx true true true true c60r16 c60r16z) (.skip))) (.seq (.reg c60r17) (.ret)))))))))),[.tmp 6]⟩
theorem c60_ok : compF Tryz.prog 60=some c60.er:=by kernel_rfl
def c82r0 : List GOp:=gS 3 [.mv (ci 0)]
def c82r1 : List GOp:=gS 4 [.mv 0,.load 1 false 1,.nilck 4,.fadd 5 6]++[⟨none,.store 1 7 5,none⟩]
def c82r2 : List GOp:=gS 3 [.mv (ci 0)]
def c82 : EFn:=⟨8,.seq (.reg c82r0) (.seq (.reg c82r1) (.seq (.reg c82r2) (.ret))),[.tmp 3]⟩
theorem c82_ok : compF Tryz.prog 82=some c82.er:=by kernel_rfl
def c45r0 : List GOp:=gS 5 [.box 3 2,.mv (ci 0)]
def c45r1 : List GOp:=gS 7 [.load 1 false 5,.bin .lss 7 (ci 1),.mv 8]++gQ 9 false 10 [.load 1 false 5,.bin .gtr 10 (ci 1000000000)]++gS 12 [.pick 9 (cB true) 11]
def c45r2 : List GOp:=gS 6 [.mv (ci 1)]
def c45r3 : List GOp:=gS 13 [.mv 0,.mv 1,.mkfn (.func 82) [] [5],.call 60 [13,14,15]]++gS 6 [.mv 16]
def c45 : EFn:=⟨17,.seq (.reg c45r0) (.seq (.join (.reg c45r1) (.cond 12 (.seq (.reg c45r2) (.ret)) (.skip))) (.seq (.reg c45r3) (.ret))),[.tmp 6]⟩
theorem c45_ok : compF Tryz.prog 45=some c45.er:=by kernel_rfl
set_option maxHeartbeats 8000000 in
theorem registry_Registry_Revoke_R {P:Program}(hP:P=Tryz.prog)(show0:Int)(places0:Int)(titles0:(List (Int×Entry)))(at0:(List (Int×Int)))(serial:Int)(now:Int)(r:Int×(List (Int×Entry))×(List (Int×Int)))(h:registry_Registry_Revoke_b show0 places0 titles0 at0 serial now=some r):SCall P 45 [.cells [oi show0,oi places0,.hd 1,.hd 2] 74,.mp (.int .i64) true (WM (Value.int .i64) eEntry titles0),.mp (.int .i64) false (WM (Value.int .i64) eIi64 at0)] [.ptr 0 0,oi serial,oi now] (fun sv own'=>sv=oi r.1∧own'=[.cells [oi show0,oi places0,.hd 1,.hd 2] 74,.mp (.int .i64) true (WM (Value.int .i64) eEntry r.2.1),.mp (.int .i64) false (WM (Value.int .i64) eIi64 r.2.2)]):=by
 refine .walkF 3 rfl (Nat.le_of_ble_eq_true rfl) (hP▸c45_ok) fun K hK=>?_;unfold registry_Registry_Revoke_b at h;cbv;refine .g h (fun (v1:Bool)=>[.ptr 0 0,oi serial]++rp 3 .top++[.ptr 3 0]++rp 6 .top++[ob v1]++rp 4 .top) (fun v1=>[.cells [oi show0,oi places0,.hd 1,.hd 2] 74,.mp (.int .i64) true (WM (Value.int .i64) eEntry titles0),.mp (.int .i64) false (WM (Value.int .i64) eIi64 at0),.cells [oi now] 3]) (fun y hm Kn1 hKn1=>?_) fun t h=>?_
 ·have h:=hm;clear hm;cbv;refine brkG h ?_ ?_<;>intro h
  ·cbv;obtain rfl:=oj h;exact hKn1 _ _ _ rfl (.nz (.mtE [0,1,2,3] mx))
  ·cbv;obtain rfl:=oj h;exact hKn1 _ _ _ rfl (.nz (.mtE [0,1,2,3] mx))
 obtain⟨v1,rfl⟩:=ez t;cbv;refine brkG h ?_ ?_<;>intro h
 ·cbv;obtain rfl:=oj h;exact hK _ _ [] [0,1,2] mx
 ·cbv;refine .inl (hP▸c60_ok) ?_;cbv;refine .oi (e:=eEntry) h (by first | rfl | exact WM_nil' _ _) (fun y2 h=>?_) (fun h=>?_)
  ·cbv;refine brkF io_nt ?_;cbv;refine brkG h ?_ ?_<;>intro h
   ·cbv;obtain rfl:=oj h;exact hK _ _ [] [0,1,2] mx
   ·cbv;refine .g h (fun (_:Unit)=>[.ptr 0 0,oi serial]++rp 5 .top++[.ptr 4 0,.top,oi y2.Title.Place,oi 0]++rp 56 .top) (fun _=>[.cells [oi show0,oi places0,.hd 1,.hd 2] 74,.mp (.int .i64) true (WM (Value.int .i64) eEntry titles0),.mp (.int .i64) false (WM (Value.int .i64) eIi64 at0),.cells [oi now] 3,.cells [oi y2.Title.Serial,oi y2.Title.Show,oi y2.Title.Place,.d (.val (.string y2.Title.First)),dq eTransfer y2.Title.Chain,oi now] 78]) (fun y hm Kn1 hKn1=>?_) fun t h=>?_
    ·have h:=hm;clear hm;cbv;refine .inl (hP▸c82_ok) ?_;cbv;obtain rfl:=oj h;exact hKn1 _ _ _ rfl (.nz (.mtE [0,1,2,3,4] mx))
    cbv;refine brkG h ?_ ?_<;>intro h
    ·cbv;obtain rfl:=oj h;exact hK _ _ [] [0,1,2] mx
    ·cbv;refine .gi (e:=eEntry) h (by first | rfl | exact WM_nil' _ _) aw_ fun m3 h=>?_;cbv;refine .g h (fun (own4:(List (Int×Int)))=>[.ptr 0 0,oi serial]++rp 5 .top++[.ptr 4 0]++rp 59 .top) (fun own4=>[.cells [oi show0,oi places0,.hd 1,.hd 2] 74,.mp (.int .i64) true (WM (Value.int .i64) eEntry m3),.mp (.int .i64) false (WM (Value.int .i64) eIi64 own4),.cells [oi now] 3,.cells [oi y2.Title.Serial,oi y2.Title.Show,oi y2.Title.Place,.d (.val (.string y2.Title.First)),dq eTransfer y2.Title.Chain,oi now] 78]) (fun y hm Kn1 hKn1=>?_) fun t h=>?_
     ·have h:=hm;clear hm;cbv;refine brkG h ?_ ?_<;>intro h
      ·cbv;refine .gi (e:=eIi64) h rfl fun m5 h=>?_;cbv;obtain rfl:=oj h;exact hKn1 _ _ _ rfl (.nz (.mtE [0,1,2,3,4] mx))
      ·cbv;obtain rfl:=oj h;exact hKn1 _ _ _ rfl (.nz (.mtE [0,1,2,3,4] mx))
     obtain⟨own4,rfl⟩:=ez t;cbv;refine .g h (fun (v6:Bool)=>[.ptr 0 0,oi serial]++rp 5 .top++[.ptr 4 0]++rp 50 .top++[ob v6]++rp 8 .top) (fun v6=>[.cells [oi show0,oi places0,.hd 1,.hd 2] 74,.mp (.int .i64) true (WM (Value.int .i64) eEntry m3),.mp (.int .i64) false (WM (Value.int .i64) eIi64 own4),.cells [oi now] 3,.cells [oi y2.Title.Serial,oi y2.Title.Show,oi y2.Title.Place,.d (.val (.string y2.Title.First)),dq eTransfer y2.Title.Chain,oi now] 78]) (fun y hm Kn1 hKn1=>?_) fun t h=>?_
     ·have h:=hm;clear hm;cbv;refine brkG h ?_ ?_<;>intro h
      ·cbv;obtain rfl:=oj h;exact hKn1 _ _ _ rfl (.nz (.mtE [0,1,2,3,4] mx))
      ·cbv;obtain rfl:=oj h;exact hKn1 _ _ _ rfl (.nz (.mtE [0,1,2,3,4] mx))
     obtain⟨v6,rfl⟩:=ez t;cbv;refine brkG h ?_ ?_<;>intro h
     ·cbv;refine .gi (e:=eIi64) h (by first | rfl | exact WM_nil' _ _) aw_ fun m7 h=>?_;cbv;obtain rfl:=oj h;exact hK _ _ [] [0,1,2] mx
     ·cbv;obtain rfl:=oj h;exact hK _ _ [] [0,1,2] mx
  ·cbv;refine brkT io_nf ?_;cbv;obtain rfl:=oj h;exact hK _ _ [] [0,1,2] mx
set_option maxHeartbeats 4000000 in
theorem registry_Registry_Revoke_nil_R {P:Program}(hP:P=Tryz.prog)(serial:Int)(now:Int)(r:Int)(h:registry_Registry_Revoke_nil_g serial now=some r):Fn1 P 45 [.d (.val (.pointer none)),vIi64 serial,vIi64 now] (vIi64 r):=by
 refine .walkE (hP▸c45_ok) fun K hK=>?_;unfold registry_Registry_Revoke_nil_g at h;cbv;refine .g h (fun (v1:Bool)=>[.d (.val (.pointer none)),oi serial]++rp 3 .top++[.ptr 0 0]++rp 6 .top++[ob v1]++rp 4 .top) (fun v1=>[.cells [oi now] 3]) (fun y hm Kn1 hKn1=>?_) fun t h=>?_
 ·have h:=hm;clear hm;cbv;refine brkG h ?_ ?_<;>intro h
  ·cbv;obtain rfl:=oj h;exact hKn1 _ _ _ rfl (.nz (.mtE [0] mx))
  ·cbv;obtain rfl:=oj h;exact hKn1 _ _ _ rfl (.nz (.mtE [0] mx))
 obtain⟨v1,rfl⟩:=ez t;cbv;refine brkG h ?_ ?_<;>intro h
 ·cbv;obtain rfl:=oj h;exact hK _ _ aw_
 ·cbv;refine .inl (hP▸c60_ok) ?_;cbv;obtain rfl:=oj h;exact hK _ _ aw_
end Go.SX.Rg
namespace Go.SX.Rg
open Go Go.SX Go.Proofs
set_option maxRecDepth 100000
end Go.SX.Rg
namespace Go.SX.Rg
open Go Go.SX Go.Proofs
set_option maxRecDepth 100000
def c59r0 : List GOp:=gS 2 [.mv cn]
def c59r1 : List GOp:=gS 3 [.mv 0,.snl false 3]
def c59r2 : List GOp:=gS 2 [.mv cn]
def c59r3 : List GOp:=gS 5 [.bslice 46 2 0 (.agg #[(.string ⟨#[]⟩),(.slice none 0 0)]) [],.mv 0,.app 46 2 40 (.agg #[(.string ⟨#[]⟩),(.slice none 0 0)]) 5 6]++gS 2 [.mv 7]
def c59 : EFn:=⟨8,.seq (.reg c59r0) (.seq (.seq (.reg c59r1) (.cond 4 (.seq (.reg c59r2) (.ret)) (.skip))) (.seq (.reg c59r3) (.ret))),[.tmp 2]⟩
theorem c59_ok : compF Tryz.prog 59=some c59.er:=by kernel_rfl
end Go.SX.Rg
namespace Go.SX.Rg
open Go Go.SX Go.Proofs
set_option maxRecDepth 100000
set_option maxHeartbeats 4000000 in
theorem slices_CloneW_O {P:Program}(hP:P=Tryz.prog)(s_:(List Transfer))(r:(List Transfer))(h:slices_CloneW_g s_=some r):SCall P 59 [] [vLTransfer s_] (fun sv own'=>sv=.hd 0∧own'=[.row 46 2 (W eTransfer r)]):=by
 refine .walkO (hP▸c59_ok) fun K hK=>?_;unfold slices_CloneW_g at h;cbv;refine .g h fun b1 h=>?_;cbv;refine brkG h ?_ ?_<;>intro h
 ·cbv;obtain rfl:=oj h;exact hK _ _ aw_
 ·cbv;refine .g (e:=eTransfer) h (W_nil' _) fun l2 h=>?_;cbv;refine .g h rfl (fun _=>rfl) (by decide) fun l3 h=>?_;cbv;obtain rfl:=oj h;exact hK _ _ aw_
end Go.SX.Rg
namespace Go.SX.Rg
open Go Go.SX Go.Proofs
set_option maxRecDepth 100000
def c62r0 : List GOp:=gS 2 [.mv cn]
def c62r1 : List GOp:=gS 3 [.mv 0,.snl false 3]
def c62r2 : List GOp:=gS 2 [.mv cn]
def c62r3 : List GOp:=gS 5 [.bslice 9 1 0 (.string ⟨#[]⟩) [],.mv 0,.app 9 1 16 (.string ⟨#[]⟩) 5 6]++gS 2 [.mv 7]
def c62 : EFn:=⟨8,.seq (.reg c62r0) (.seq (.seq (.reg c62r1) (.cond 4 (.seq (.reg c62r2) (.ret)) (.skip))) (.seq (.reg c62r3) (.ret))),[.tmp 2]⟩
theorem c62_ok : compF Tryz.prog 62=some c62.er:=by kernel_rfl
set_option maxHeartbeats 4000000 in
theorem slices_Clone_2_R {P:Program}(hP:P=Tryz.prog)(s_:(List ByteArray))(r:(List ByteArray))(h:slices_Clone_2_g s_=some r):Fn1 P 62 [vLS s_] (vLS r):=by
 refine .walkE (hP▸c62_ok) fun K hK=>?_;unfold slices_Clone_2_g at h;cbv;refine .g h fun b1 h=>?_;cbv;refine brkG h ?_ ?_<;>intro h
 ·cbv;obtain rfl:=oj h;exact hK _ _ aw_
 ·cbv;refine .g (e:=eS) h (W_nil' _) fun l2 h=>?_;cbv;refine .g h rfl (fun _=>rfl) (by decide) fun l3 h=>?_;cbv;obtain rfl:=oj h;exact hK _ _ aw_
end Go.SX.Rg
namespace Go.SX.Rg
open Go Go.SX Go.Proofs
set_option maxRecDepth 100000
def c70r0 : List GOp:=gS 5 [.mv (ci 0)]
def c70r1 : List GOp:=gS 7 [.load 1 false 1,.nilck 7,.fadd 3 8,.load 1 false 9,.load 1 false 2,.mget (.int .i64) false false oz 10 11]++gS 6 [.mv 12]
def c70r2 : List GOp:=gS 13 [.mv 6,.bin .neq 13 (ci 0),.mv 14]++gQ 15 true 16 [.mv 6,.load 1 false 3,.bin .neq 16 17]++gS 19 [.pick 15 18 (cB false)]
def c70r3 : List GOp:=gS 5 [.mv (ci 16)]
def c70r4 : List GOp:=gS 20 [.mv 0,.load 1 false 2,.nilck 20,.fadd 0 22,.fadd 2 23]++[⟨none,.store 1 24 21,none⟩]
def c70r5 : List GOp:=gS 5 [.mv (ci 0)]
def c70 : EFn:=⟨25,.seq (.reg c70r0) (.seq (.seq (.par true true true true 5 c70r1) (.join (.reg c70r2) (.cond 19 (.seq (.reg c70r3) (.ret)) (.skip)))) (.seq (.reg c70r4) (.seq (.reg c70r5) (.ret)))),[.tmp 5]⟩
theorem c70_ok : compF Tryz.prog 70=some c70.er:=by kernel_rfl
def c38r0 : List GOp:=gS 3 [.box 25 0,.box 3 1,.box 3 2,.mv (ci 0)]
def c38r1 : List GOp:=gS 7 [.load 1 false 3,.pnil false 7,.mv 8]++gQ 9 false 10 [.load 1 false 5,.bin .lss 10 (ci (-1))]++gS 12 [.pick 9 (cB true) 11,.mv 12]++gQ 13 false 14 [.load 1 false 5,.load 1 false 3,.nilck 15,.fadd 1 16,.load 1 false 17,.bin .geq 14 18]++gS 20 [.pick 13 (cB true) 19]
def c38r2 : List GOp:=gS 6 [.mv (ci 1)]
def c38r3 : List GOp:=gS 21 [.load 1 false 3,.load 1 false 4,.mkfn (.func 70) [] [3,5,4],.call 60 [21,22,23]]++gS 6 [.mv 24]
def c38 : EFn:=⟨25,.seq (.reg c38r0) (.seq (.join (.par true true true true 12 c38r1) (.cond 20 (.seq (.reg c38r2) (.ret)) (.skip))) (.seq (.reg c38r3) (.ret))),[.tmp 6]⟩
theorem c38_ok : compF Tryz.prog 38=some c38.er:=by kernel_rfl
set_option maxHeartbeats 8000000 in
theorem registry_Registry_Move_R {P:Program}(hP:P=Tryz.prog)(show0:Int)(places0:Int)(titles0:(List (Int×Entry)))(at0:(List (Int×Int)))(serial:Int)(place:Int)(r:Int×(List (Int×Entry))×(List (Int×Int)))(h:registry_Registry_Move_b show0 places0 titles0 at0 serial place=some r):SCall P 38 [.cells [oi show0,oi places0,.hd 1,.hd 2] 74,.mp (.int .i64) true (WM (Value.int .i64) eEntry titles0),.mp (.int .i64) false (WM (Value.int .i64) eIi64 at0)] [.ptr 0 0,oi serial,oi place] (fun sv own'=>sv=oi r.1∧own'=[.cells [oi show0,oi places0,.hd 1,.hd 2] 74,.mp (.int .i64) true (WM (Value.int .i64) eEntry r.2.1),.mp (.int .i64) false (WM (Value.int .i64) eIi64 r.2.2)]):=by
 refine .walkF 3 rfl (Nat.le_of_ble_eq_true rfl) (hP▸c38_ok) fun K hK=>?_;unfold registry_Registry_Move_b at h;cbv;refine .g h (fun (v1:Bool)=>rp 3 .top++[.ptr 3 0,.ptr 4 0,.ptr 5 0]++rp 14 .top++[ob v1]++rp 4 .top) (fun v1=>[.cells [oi show0,oi places0,.hd 1,.hd 2] 74,.mp (.int .i64) true (WM (Value.int .i64) eEntry titles0),.mp (.int .i64) false (WM (Value.int .i64) eIi64 at0),.cells [.ptr 0 0] 25,.cells [oi serial] 3,.cells [oi place] 3]) (fun y hm Kn1 hKn1=>?_) fun t h=>?_
 ·have h:=hm;clear hm;cbv;refine brkG h ?_ ?_<;>intro h
  ·cbv;obtain rfl:=oj h;exact hKn1 _ _ _ rfl (.nz (.mtE [0,1,2,3,4,5] mx))
  ·cbv;obtain rfl:=oj h;exact hKn1 _ _ _ rfl (.nz (.mtE [0,1,2,3,4,5] mx))
 obtain⟨v1,rfl⟩:=ez t;cbv;refine brkG h ?_ ?_<;>intro h
 ·cbv;obtain rfl:=oj h;exact hK _ _ [] [0,1,2] mx
 ·cbv;refine .inl (hP▸c60_ok) ?_;cbv;refine .oi (e:=eEntry) h (by first | rfl | exact WM_nil' _ _) (fun y2 h=>?_) (fun h=>?_)
  ·cbv;refine brkF io_nt ?_;cbv;refine brkG h ?_ ?_<;>intro h
   ·cbv;obtain rfl:=oj h;exact hK _ _ [] [0,1,2] mx
   ·cbv;refine .g h (fun ((Place3,e4):Int×Int)=>[.ptr 0 0,oi serial]++rp 5 .top++[.ptr 6 0,.top,oi y2.Title.Place,oi e4]++rp 56 .top) (fun (Place3,e4)=>[.cells [oi show0,oi places0,.hd 1,.hd 2] 74,.mp (.int .i64) true (WM (Value.int .i64) eEntry titles0),.mp (.int .i64) false (WM (Value.int .i64) eIi64 at0),.cells [.ptr 0 0] 25,.cells [oi serial] 3,.cells [oi place] 3,.cells [oi y2.Title.Serial,oi y2.Title.Show,oi Place3,.d (.val (.string y2.Title.First)),dq eTransfer y2.Title.Chain,oi y2.gone] 78]) (fun y hm Kn1 hKn1=>?_) fun t h=>?_
    ·have h:=hm;clear hm;cbv;refine .inl (hP▸c70_ok) ?_;cbv;refine .gi (e:=eIi64) h (by first | rfl | exact WM_nil' _ _) (fun h=>h) fun y5 h=>?_;cbv;refine .g h (fun (v6:Bool)=>[.ptr 6 0,.top,.ptr 5 0]++rp 16 .top++[ob v6]++rp 5 .top) (fun v6=>[.cells [oi show0,oi places0,.hd 1,.hd 2] 74,.mp (.int .i64) true (WM (Value.int .i64) eEntry titles0),.mp (.int .i64) false (WM (Value.int .i64) eIi64 at0),.cells [.ptr 0 0] 25,.cells [oi serial] 3,.cells [oi place] 3,.cells [oi y2.Title.Serial,oi y2.Title.Show,oi y2.Title.Place,.d (.val (.string y2.Title.First)),dq eTransfer y2.Title.Chain,oi y2.gone] 78]) (fun y hm Kn2 hKn2=>?_) fun t h=>?_
     ·have h:=hm;clear hm;cbv;refine brkG h ?_ ?_<;>intro h
      ·cbv;obtain rfl:=oj h;exact hKn2 _ _ _ rfl (.nz (.mtE [0,1,2,3,4,5,6] mx))
      ·cbv;obtain rfl:=oj h;exact hKn2 _ _ _ rfl (.nz (.mtE [0,1,2,3,4,5,6] mx))
     obtain⟨v6,rfl⟩:=ez t;cbv;refine brkG h ?_ ?_<;>intro h
     ·cbv;obtain rfl:=oj h;exact hKn1 _ _ _ rfl (.nz (.mtE [0,1,2,3,4,5,6] mx))
     ·cbv;obtain rfl:=oj h;exact hKn1 _ _ _ rfl (.nz (.mtE [0,1,2,3,4,5,6] mx))
    obtain⟨Place3,e4⟩:=t;cbv;refine brkG h ?_ ?_<;>intro h
    ·cbv;obtain rfl:=oj h;exact hK _ _ [] [0,1,2] mx
    ·cbv;refine .gi (e:=eEntry) h (by first | rfl | exact WM_nil' _ _) aw_ fun m7 h=>?_;cbv;refine .g h (fun (own8:(List (Int×Int)))=>[.ptr 0 0,oi serial]++rp 5 .top++[.ptr 6 0]++rp 59 .top) (fun own8=>[.cells [oi show0,oi places0,.hd 1,.hd 2] 74,.mp (.int .i64) true (WM (Value.int .i64) eEntry m7),.mp (.int .i64) false (WM (Value.int .i64) eIi64 own8),.cells [.ptr 0 0] 25,.cells [oi serial] 3,.cells [oi place] 3,.cells [oi y2.Title.Serial,oi y2.Title.Show,oi Place3,.d (.val (.string y2.Title.First)),dq eTransfer y2.Title.Chain,oi y2.gone] 78]) (fun y hm Kn1 hKn1=>?_) fun t h=>?_
     ·have h:=hm;clear hm;cbv;refine brkG h ?_ ?_<;>intro h
      ·cbv;refine .gi (e:=eIi64) h rfl fun m9 h=>?_;cbv;obtain rfl:=oj h;exact hKn1 _ _ _ rfl (.nz (.mtE [0,1,2,3,4,5,6] mx))
      ·cbv;obtain rfl:=oj h;exact hKn1 _ _ _ rfl (.nz (.mtE [0,1,2,3,4,5,6] mx))
     obtain⟨own8,rfl⟩:=ez t;cbv;refine .g h (fun (v10:Bool)=>[.ptr 0 0,oi serial]++rp 5 .top++[.ptr 6 0]++rp 50 .top++[ob v10]++rp 8 .top) (fun v10=>[.cells [oi show0,oi places0,.hd 1,.hd 2] 74,.mp (.int .i64) true (WM (Value.int .i64) eEntry m7),.mp (.int .i64) false (WM (Value.int .i64) eIi64 own8),.cells [.ptr 0 0] 25,.cells [oi serial] 3,.cells [oi place] 3,.cells [oi y2.Title.Serial,oi y2.Title.Show,oi Place3,.d (.val (.string y2.Title.First)),dq eTransfer y2.Title.Chain,oi y2.gone] 78]) (fun y hm Kn1 hKn1=>?_) fun t h=>?_
     ·have h:=hm;clear hm;cbv;refine brkG h ?_ ?_<;>intro h
      ·cbv;obtain rfl:=oj h;exact hKn1 _ _ _ rfl (.nz (.mtE [0,1,2,3,4,5,6] mx))
      ·cbv;obtain rfl:=oj h;exact hKn1 _ _ _ rfl (.nz (.mtE [0,1,2,3,4,5,6] mx))
     obtain⟨v10,rfl⟩:=ez t;cbv;refine brkG h ?_ ?_<;>intro h
     ·cbv;refine .gi (e:=eIi64) h (by first | rfl | exact WM_nil' _ _) aw_ fun m11 h=>?_;cbv;obtain rfl:=oj h;exact hK _ _ [] [0,1,2] mx
     ·cbv;obtain rfl:=oj h;exact hK _ _ [] [0,1,2] mx
  ·cbv;refine brkT io_nf ?_;cbv;obtain rfl:=oj h;exact hK _ _ [] [0,1,2] mx
set_option maxHeartbeats 4000000 in
theorem registry_Registry_Move_nil_R {P:Program}(hP:P=Tryz.prog)(serial:Int)(place:Int)(r:Int)(h:registry_Registry_Move_nil_g serial place=some r):Fn1 P 38 [.d (.val (.pointer none)),vIi64 serial,vIi64 place] (vIi64 r):=by
 refine .walkE (hP▸c38_ok) fun K hK=>?_;unfold registry_Registry_Move_nil_g at h;cbv;refine .g h (fun (_:Unit)=>rp 3 .top++[.ptr 0 0,.ptr 1 0,.ptr 2 0]++rp 14 .top++[ob true]++rp 4 .top) (fun _=>[.cells [.d (.val (.pointer none))] 25,.cells [oi serial] 3,.cells [oi place] 3]) (fun y hm Kn1 hKn1=>?_) fun t h=>?_
 ·have h:=hm;clear hm;cbv;obtain rfl:=oj h;exact hKn1 _ _ _ rfl (.nz (.mtE [0,1,2] mx))
 cbv;obtain rfl:=oj h;exact hK _ _ aw_
end Go.SX.Rg
namespace Go.SX.Rg
open Go Go.SX Go.Proofs
set_option maxRecDepth 100000
noncomputable def ref32_Registry_At_l2 (titles0:(List Title))(gone0:(List Int))(place:Int):Int→Option ((Int) ⊕ ((Unit) ⊕ (Int)))
 | i1 =>
 bif (io.lt i1 (io.len (W eTitle titles0))) then (
 Option.bind (
 Option.bind (idxG gone0 i1) fun x3 =>
 bif (io.eq x3 0) then (
 Option.bind (idxG titles0 i1) fun x4 =>
 some (io.eq x4.Place place)
 ) else (
 some false
 )
 ) fun v2 =>
 bif v2 then (
 Option.bind (idxG titles0 i1) fun x5 =>
 some (.inr (.inr x5.Serial))
 ) else (
 some (.inl (io.ar .add .i64 i1 1))
 )
 ) else (
 some (.inr (.inl ()))
 )
noncomputable def ref32_Registry_At_b (show0:Int)(places0:Int)(titles0:(List Title))(gone0:(List Int))(place:Int):Option (Int) :=
 Option.bind (
 some ()
 ) fun _ =>
 bif (io.lt place 0) then (
 some 0
 ) else (
 orR (
 whileG (ref32_Registry_At_l2 titles0 gone0 place) 0
 ) fun _ =>
 some 0
 )
noncomputable def ref32_Registry_At_nil_g (place:Int):Option (Int) :=
 Option.bind (
 some ()
 ) fun _ =>
 some 0
end Go.SX.Rg
namespace Go.SX.Rg
open Go Go.SX Go.Proofs
set_option maxRecDepth 100000
noncomputable def ref02_Digit_g (c:Int):Option (Int) :=
 Option.bind (
 bif (io.le 48 c) then (
 some (io.le c 57)
 ) else (
 some false
 )
 ) fun v1 =>
 bif v1 then (
 some (io.wrap .i64 (io.ar .sub .u8 c 48))
 ) else (
 Option.bind (
 bif (io.le 97 c) then (
 some (io.le c 102)
 ) else (
 some false
 )
 ) fun v2 =>
 bif v2 then (
 some (io.ar .add .i64 (io.wrap .i64 (io.ar .sub .u8 c 97)) 10)
 ) else (
 some (-1)
 )
 )
end Go.SX.Rg
namespace Go.SX.Rg
open Go Go.SX Go.Proofs
set_option maxRecDepth 100000
noncomputable def ref02_Is_l2 (text:ByteArray):Int→Option ((Int) ⊕ ((Unit) ⊕ (Bool)))
 | i1 =>
 Option.bind (
 bif (io.lt i1 (io.ssz text)) then (
 some (io.lt i1 16)
 ) else (
 some false
 )
 ) fun v2 =>
 bif v2 then (
 Option.bind (idxStr text i1) fun b3 =>
 Option.bind (ref02_Digit_g b3) fun v4 =>
 bif (io.lt v4 0) then (
 some (.inr (.inr false))
 ) else (
 some (.inl (io.ar .add .i64 i1 1))
 )
 ) else (
 some (.inr (.inl ()))
 )
noncomputable def ref02_Is_g (text:ByteArray):Option (Bool) :=
 orR (
 whileG (ref02_Is_l2 text) 0
 ) fun _ =>
 some (io.eq (io.ssz text) 16)
end Go.SX.Rg
