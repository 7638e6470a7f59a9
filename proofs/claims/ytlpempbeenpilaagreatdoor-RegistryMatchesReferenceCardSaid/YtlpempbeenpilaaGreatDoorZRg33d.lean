/- Parts of the proof. -/
import Derived.Test.YtlpempbeenpilaaGreatDoorZRgT
import Derived.Test.YtlpempbeenpilaaGreatDoorZRg46d
import Derived.Test.YtlpempbeenpilaaGreatDoorZRgH9
import Derived.Test.YtlpempbeenpilaaGreatDoorZRg30d
import Derived.Test.YtlpempbeenpilaaGreatDoorZRg44d
import Derived.Test.YtlpempbeenpilaaGreatDoorZRg65
import Derived.Test.YtlpempbeenpilaaGreatDoorZRg17d
set_option linter.unusedSimpArgs false
set_option linter.unusedVariables false
set_option linter.unusedSectionVars false
namespace Go.SX.Rg
open Go Go.SX Go.Proofs
set_option maxRecDepth 100000
noncomputable def registry_Registry_Pass_b (show0:Int)(places0:Int)(titles0:(List (Int×Entry)))(at0:(List (Int×Int)))(serial:Int)(t_:Transfer):Option (Int×(List (Int×Entry))×(List (Int×Int))) :=
 optG (mlook titles0 serial) (fun y1 =>
 bif (io.lt 0 y1.gone) then (
 some (27,titles0,at0)
 ) else (
 Option.bind (
 bif (io.le 50 (io.len (W eTransfer y1.Title.Chain))) then (
 some (t_.Sig,y1.Title.Chain,3)
 ) else (
 Option.bind (slices_Clone_2_g t_.Sig) fun v5 =>
 Option.bind (slices_CloneW_g y1.Title.Chain) fun l6 =>
 Option.bind (some [(Transfer.mk t_.To v5)]) fun l7 =>
 Option.bind (appG l6 l7) fun l8 =>
 Option.bind (title_Valid_g (Title.mk y1.Title.Serial y1.Title.Show y1.Title.Place y1.Title.First l8)) fun v9 =>
 bif (io.not v9) then (
 some (v5,l8,20)
 ) else (
 some (v5,l8,0)
 )
 )
 ) fun (Sig2,Chain3,e4) =>
 bif (io.not (io.eq e4 0)) then (
 some (e4,titles0,at0)
 ) else (
 Option.bind (some (mputG titles0 serial (Entry.mk (Title.mk y1.Title.Serial y1.Title.Show y1.Title.Place y1.Title.First Chain3) y1.gone))) fun m10 =>
 Option.bind (
 bif (io.le 0 y1.Title.Place) then (
 Option.bind (some (mdelG at0 y1.Title.Place)) fun m12 =>
 some m12
 ) else (
 some at0
 )
 ) fun own11 =>
 Option.bind (
 bif (io.le 0 y1.Title.Place) then (
 some (io.eq y1.gone 0)
 ) else (
 some false
 )
 ) fun v13 =>
 bif v13 then (
 Option.bind (some (mputG own11 y1.Title.Place serial)) fun m14 =>
 some (0,m10,m14)
 ) else (
 some (0,m10,own11)
 )
 )
 )
 ) (
 some (11,titles0,at0)
 )
noncomputable def registry_Registry_Pass_nil_g (serial:Int)(t_:Transfer):Option (Int) :=
 some 1
end Go.SX.Rg
namespace Go.SX.Rg
open Go Go.SX Go.Proofs
set_option maxRecDepth 100000
noncomputable def law32_do_b (show0:Int)(places0:Int)(titles0:(List (Int×Entry)))(at0:(List (Int×Int)))(x_:Op)(known:(List ByteArray)):Option (Int×Int×(List (Int×Entry))×(List (Int×Int))) :=
 bif (io.eq x_.Kind 0) then (
 Option.bind (
 bif (io.seq x_.Key (⟨#[]⟩)) then (
 Option.bind (ref02_Decimal_g x_.At) fun v2 =>
 Option.bind (catG (⟨#[102,105,114,115,116,32]⟩) v2) fun _ =>
 Option.bind (law32_secret_g (io.cat (⟨#[102,105,114,115,116,32]⟩) v2)) fun v3 =>
 Option.bind (sign_Public_g v3) fun known4 =>
 some known4
 ) else (
 some x_.Key
 )
 ) fun key1 =>
 Option.bind (registry_Registry_Issue_b show0 places0 titles0 at0 x_.At key1) fun r5 =>
 some (r5.1,r5.2.1,r5.2.2.1,r5.2.2.2)
 ) else (
 bif (io.eq x_.Kind 2) then (
 Option.bind (registry_Registry_Revoke_b show0 places0 titles0 at0 x_.Serial x_.At) fun r6 =>
 some (0,r6.1,r6.2.1,r6.2.2)
 ) else (
 bif (io.eq x_.Kind 3) then (
 Option.bind (registry_Registry_Move_b show0 places0 titles0 at0 x_.Serial x_.At) fun r7 =>
 some (0,r7.1,r7.2.1,r7.2.2)
 ) else (
 Option.bind (
 Option.bind (registry_Registry_Title_b show0 places0 titles0 at0 x_.Serial) fun r13 =>
 some (r13.1.Serial,r13.1.Show,r13.1.Place,r13.1.First,r13.1.Chain)
 ) fun (Serial8,Show9,Place10,First11,Chain12) =>
 Option.bind (law32_transfer_g x_ (Title.mk Serial8 Show9 Place10 First11 Chain12) known) fun v14 =>
 Option.bind (registry_Registry_Pass_b show0 places0 titles0 at0 x_.Serial v14) fun r15 =>
 some (0,r15.1,r15.2.1,r15.2.2)
 )
 )
 )
noncomputable def law32_do_nil_g (x_:Op)(known:(List ByteArray)):Option (Int×Int) :=
 bif (io.eq x_.Kind 0) then (
 Option.bind (
 bif (io.seq x_.Key (⟨#[]⟩)) then (
 Option.bind (ref02_Decimal_g x_.At) fun v2 =>
 Option.bind (catG (⟨#[102,105,114,115,116,32]⟩) v2) fun _ =>
 Option.bind (law32_secret_g (io.cat (⟨#[102,105,114,115,116,32]⟩) v2)) fun v3 =>
 Option.bind (sign_Public_g v3) fun known4 =>
 some known4
 ) else (
 some x_.Key
 )
 ) fun key1 =>
 Option.bind (registry_Registry_Issue_nil_g x_.At key1) fun v5 =>
 some (v5.1,v5.2)
 ) else (
 bif (io.eq x_.Kind 2) then (
 Option.bind (registry_Registry_Revoke_nil_g x_.Serial x_.At) fun v6 =>
 some (0,v6)
 ) else (
 bif (io.eq x_.Kind 3) then (
 Option.bind (registry_Registry_Move_nil_g x_.Serial x_.At) fun v7 =>
 some (0,v7)
 ) else (
 Option.bind (
 Option.bind (registry_Registry_Title_nil_g x_.Serial) fun v13 =>
 some (v13.1.Serial,v13.1.Show,v13.1.Place,v13.1.First,v13.1.Chain)
 ) fun (Serial8,Show9,Place10,First11,Chain12) =>
 Option.bind (law32_transfer_g x_ (Title.mk Serial8 Show9 Place10 First11 Chain12) known) fun v14 =>
 Option.bind (registry_Registry_Pass_nil_g x_.Serial v14) fun v15 =>
 some (0,v15)
 )
 )
 )
end Go.SX.Rg
namespace Go.SX.Rg
open Go Go.SX Go.Proofs
set_option maxRecDepth 100000
def c61r0 : List GOp:=gS 3 [.mv (ci 0)]
def c61r1 : List GOp:=gS 4 [.mv 0,.nilck 4,.fadd 0 5,.fadd 4 6,.load 1 false 7,.len false 8,.bin .geq 9 (ci 50)]
def c61r2 : List GOp:=gS 3 [.mv (ci 3)]
def c61r3 : List GOp:=gS 11 [.fadd 1 1,.load 1 false 11,.call 62 [12],.fadd 1 1]++[⟨none,.store 1 14 13,none⟩]
def c61r4 : List GOp:=gS 15 [.mv 0,.mv 0,.nilck 16,.fadd 0 17,.fadd 4 18,.load 1 false 19,.call 59 [20],.load 2 true 1,.bslice 46 2 1 (.agg #[(.string ⟨#[]⟩),(.slice none 0 0)]) [(0,22)],.app 46 2 40 (.agg #[(.string ⟨#[]⟩),(.slice none 0 0)]) 21 23]
def c61r4z : List GOp:=gS 25 [.nilck 15,.fadd 0 25,.fadd 4 26]++[⟨none,.store 1 27 24,none⟩]
def c61r5 : List GOp:=gS 28 [.mv 0,.nilck 28,.fadd 0 29,.load 5 true 30,.call 41 [31],.un .not 32]
def c61r6 : List GOp:=gS 3 [.mv (ci 20)]
def c61r7 : List GOp:=gS 3 [.mv (ci 0)]
def c61 : EFn:=⟨34,.seq (.reg c61r0) (.seq (.seq (.reg c61r1) (.cond 10 (.seq (.reg c61r2) (.ret)) (.skip))) (.seq (.reg c61r3) (.seq (.eff false false false [6,9] c61r4 c61r4z) (.seq (.seq (.reg c61r5) (.cond 33 (.seq (.reg c61r6) (.ret)) (.skip))) (.seq (.reg c61r7) (.ret)))))),[.tmp 3]⟩
theorem c61_ok : compF Tryz.prog 61=some c61.er:=by kernel_rfl
def c33r0 : List GOp:=gS 5 [.box 46 2,.mv (ci 0)]
def c33r1 : List GOp:=gS 7 [.mv 0,.mv 1,.mkfn (.func 61) [] [5],.call 60 [7,8,9]]++gS 6 [.mv 10]
def c33 : EFn:=⟨11,.seq (.reg c33r0) (.seq (.reg c33r1) (.ret)),[.tmp 6]⟩
theorem c33_ok : compF Tryz.prog 33=some c33.er:=by kernel_rfl
set_option maxHeartbeats 8000000 in
theorem registry_Registry_Pass_R {P:Program}(hP:P=Tryz.prog)(show0:Int)(places0:Int)(titles0:(List (Int×Entry)))(at0:(List (Int×Int)))(serial:Int)(t_:Transfer)(r:Int×(List (Int×Entry))×(List (Int×Int)))(h:registry_Registry_Pass_b show0 places0 titles0 at0 serial t_=some r):SCall P 33 [.cells [oi show0,oi places0,.hd 1,.hd 2] 74,.mp (.int .i64) true (WM (Value.int .i64) eEntry titles0),.mp (.int .i64) false (WM (Value.int .i64) eIi64 at0)] [.ptr 0 0,oi serial,.agg [.d (.val (.string t_.To)),dq eS t_.Sig]] (fun sv own'=>sv=oi r.1∧own'=[.cells [oi show0,oi places0,.hd 1,.hd 2] 74,.mp (.int .i64) true (WM (Value.int .i64) eEntry r.2.1),.mp (.int .i64) false (WM (Value.int .i64) eIi64 r.2.2)]):=by
 refine .walkF 3 rfl (Nat.le_of_ble_eq_true rfl) (hP▸c33_ok) fun K hK=>?_;unfold registry_Registry_Pass_b at h;cbv;refine .inl (hP▸c60_ok) ?_;cbv;refine .oi (e:=eEntry) h (by first | rfl | exact WM_nil' _ _) (fun y1 h=>?_) (fun h=>?_)
 ·cbv;refine brkF io_nt ?_;cbv;refine brkG h ?_ ?_<;>intro h
  ·cbv;obtain rfl:=oj h;exact hK _ _ [] [0,1,2] mx
  ·cbv;refine .g h (fun ((Sig2,Chain3,e4):(List ByteArray)×(List Transfer)×Int)=>[.ptr 0 0,oi serial]++rp 5 .top++[.ptr 4 0,.top,oi y1.Title.Place,oi e4]++rp 56 .top) (fun (Sig2,Chain3,e4)=>[.cells [oi show0,oi places0,.hd 1,.hd 2] 74,.mp (.int .i64) true (WM (Value.int .i64) eEntry titles0),.mp (.int .i64) false (WM (Value.int .i64) eIi64 at0),.cells [.d (.val (.string t_.To)),dq eS Sig2] 46,.cells [oi y1.Title.Serial,oi y1.Title.Show,oi y1.Title.Place,.d (.val (.string y1.Title.First)),dq eTransfer Chain3,oi y1.gone] 78]) (fun y hm Kn1 hKn1=>?_) fun t h=>?_
   ·have h:=hm;clear hm;cbv;refine .inl (hP▸c61_ok) ?_;cbv;refine brkG h ?_ ?_<;>intro h
    ·cbv;obtain rfl:=oj h;exact hKn1 _ _ _ rfl (.nz (.mtE [0,1,2,3,4] mx))
    ·cbv;refine .g h (fun v hv=>slices_Clone_2_R hP _ v hv) aw_ rfl (fun _=>rfl) fun v5 h=>?_;cbv;refine .gx [] 5 ?_;cbv;obtain⟨l6,hm,h⟩:=Option.bind_eq_some_iff.1 h;refine .emb [] (slices_CloneW_O hP _ _ hm) mx ?_;clear hm;cbv;refine⟨.of (by (cbv;repeat (first | exact trivial | refine⟨by first | rfl | trivial,?_⟩))),?_⟩;cbv;refine .g (e:=eTransfer) h (W_cons aw_ (W_nil' _)) fun l7 h=>?_;cbv;refine .g h rfl (fun _=>rfl) (by decide) fun l8 h=>?_;cbv;refine⟨.of (by (cbv;repeat (first | exact trivial | refine⟨by first | rfl | trivial,?_⟩))),?_⟩;cbv;refine .gl [] h (fun v hv=>title_Valid_R hP _ v hv) aw_ rfl fun v9 h=>?_;cbv;refine brkG h ?_ ?_<;>intro h
     ·cbv;obtain rfl:=oj h;exact hKn1 _ _ _ rfl (.frz [.hd 6] (.nz (.mtE [0,1,2,3,4] mx)))
     ·cbv;obtain rfl:=oj h;exact hKn1 _ _ _ rfl (.frz [.hd 6] (.nz (.mtE [0,1,2,3,4] mx)))
   obtain⟨Sig2,Chain3,e4⟩:=t;cbv;refine brkG h ?_ ?_<;>intro h
   ·cbv;obtain rfl:=oj h;exact hK _ _ [] [0,1,2] mx
   ·cbv;refine .gi (e:=eEntry) h (by first | rfl | exact WM_nil' _ _) aw_ fun m10 h=>?_;cbv;refine .g h (fun (own11:(List (Int×Int)))=>[.ptr 0 0,oi serial]++rp 5 .top++[.ptr 4 0]++rp 59 .top) (fun own11=>[.cells [oi show0,oi places0,.hd 1,.hd 2] 74,.mp (.int .i64) true (WM (Value.int .i64) eEntry m10),.mp (.int .i64) false (WM (Value.int .i64) eIi64 own11),.cells [.d (.val (.string t_.To)),dq eS Sig2] 46,.cells [oi y1.Title.Serial,oi y1.Title.Show,oi y1.Title.Place,.d (.val (.string y1.Title.First)),dq eTransfer Chain3,oi y1.gone] 78]) (fun y hm Kn1 hKn1=>?_) fun t h=>?_
    ·have h:=hm;clear hm;cbv;refine brkG h ?_ ?_<;>intro h
     ·cbv;refine .gi (e:=eIi64) h rfl fun m12 h=>?_;cbv;obtain rfl:=oj h;exact hKn1 _ _ _ rfl (.nz (.mtE [0,1,2,3,4] mx))
     ·cbv;obtain rfl:=oj h;exact hKn1 _ _ _ rfl (.nz (.mtE [0,1,2,3,4] mx))
    obtain⟨own11,rfl⟩:=ez t;cbv;refine .g h (fun (v13:Bool)=>[.ptr 0 0,oi serial]++rp 5 .top++[.ptr 4 0]++rp 50 .top++[ob v13]++rp 8 .top) (fun v13=>[.cells [oi show0,oi places0,.hd 1,.hd 2] 74,.mp (.int .i64) true (WM (Value.int .i64) eEntry m10),.mp (.int .i64) false (WM (Value.int .i64) eIi64 own11),.cells [.d (.val (.string t_.To)),dq eS Sig2] 46,.cells [oi y1.Title.Serial,oi y1.Title.Show,oi y1.Title.Place,.d (.val (.string y1.Title.First)),dq eTransfer Chain3,oi y1.gone] 78]) (fun y hm Kn1 hKn1=>?_) fun t h=>?_
    ·have h:=hm;clear hm;cbv;refine brkG h ?_ ?_<;>intro h
     ·cbv;obtain rfl:=oj h;exact hKn1 _ _ _ rfl (.nz (.mtE [0,1,2,3,4] mx))
     ·cbv;obtain rfl:=oj h;exact hKn1 _ _ _ rfl (.nz (.mtE [0,1,2,3,4] mx))
    obtain⟨v13,rfl⟩:=ez t;cbv;refine brkG h ?_ ?_<;>intro h
    ·cbv;refine .gi (e:=eIi64) h (by first | rfl | exact WM_nil' _ _) aw_ fun m14 h=>?_;cbv;obtain rfl:=oj h;exact hK _ _ [] [0,1,2] mx
    ·cbv;obtain rfl:=oj h;exact hK _ _ [] [0,1,2] mx
 ·cbv;refine brkT io_nf ?_;cbv;obtain rfl:=oj h;exact hK _ _ [] [0,1,2] mx
set_option maxHeartbeats 4000000 in
theorem registry_Registry_Pass_nil_R {P:Program}(hP:P=Tryz.prog)(serial:Int)(t_:Transfer)(r:Int)(h:registry_Registry_Pass_nil_g serial t_=some r):Fn1 P 33 [.d (.val (.pointer none)),vIi64 serial,vTransfer t_] (vIi64 r):=by
 refine .walkE (hP▸c33_ok) fun K hK=>?_;unfold registry_Registry_Pass_nil_g at h;cbv;refine .inl (hP▸c60_ok) ?_;cbv;obtain rfl:=oj h;exact hK _ _ aw_
end Go.SX.Rg
namespace Go.SX.Rg
open Go Go.SX Go.Proofs
set_option maxRecDepth 100000
def c16r0 : List GOp:=gS 2 [.mv (.const (.string ⟨#[]⟩))]
def c16r1 : List GOp:=gS 3 [.mv 0,.call 47 [3],.div .add (.const (.string ⟨#[102,105,114,115,116,32]⟩)) 4,.call 31 [5],.call 30 [6]]++gS 2 [.mv 7]
def c16 : EFn:=⟨8,.seq (.reg c16r0) (.seq (.reg c16r1) (.ret)),[.tmp 2]⟩
theorem c16_ok : compF Tryz.prog 16=some c16.er:=by kernel_rfl
def c15r0 : List GOp:=gS 4 [.box 32 1]++gS 6 [.mv (ci 0),.mv (ci 0)]
def c15r1 : List GOp:=gS 12 [.fadd 0 4,.load 1 false 12]
def c15r2 : List GOp:=gS 15 [.bin .eql 13 (ci 0)]++gS 14 [.mv 15]
def c15r3 : List GOp:=gS 16 [.fadd 3 4,.load 1 false 16]++gS 8 [.mv 17]
def c15r4 : List GOp:=gS 18 [.mv 8,.bin .eql 18 (.const (.string ⟨#[]⟩))]
def c15r5 : List GOp:=gS 20 [.fadd 2 4,.load 1 false 20,.call 16 [21]]++gS 8 [.mv 22]
def c15r6 : List GOp:=gS 23 [.mv 0,.fadd 2 4,.load 1 false 24,.mv 8,.call 43 [23,25,26],.ext 27 0,.ext 27 1]++gS 6 [.mv 28,.mv 29]
def c15r7 : List GOp:=gS 31 [.bin .eql 13 (ci 2)]++gS 30 [.mv 31]
def c15r8 : List GOp:=gS 32 [.mv 0,.fadd 1 4,.load 1 false 33,.fadd 2 4,.load 1 false 35,.call 45 [32,34,36]]++gS 6 [.mv (ci 0),.mv 37]
def c15r9 : List GOp:=gS 39 [.bin .eql 13 (ci 3)]++gS 38 [.mv 39]
def c15r10 : List GOp:=gS 40 [.mv 0,.fadd 1 4,.load 1 false 41,.fadd 2 4,.load 1 false 43,.call 38 [40,42,44]]++gS 6 [.mv (ci 0),.mv 45]
def c15r11 : List GOp:=gS 47 [.mv 0,.fadd 1 4,.load 1 false 48,.call 14 [47,49]]++gS 46 [.mv 50]++gS 51 [.ext 46 0,.ext 46 1,.ext 46 2]++gS 9 [.alloc 35 (.agg #[oz,oz,oz,(.string ⟨#[]⟩),(.slice none 0 0)])]++[⟨none,.store 5 9 51,none⟩]++gS 10 [.mv 52,.mv 53]
def c15r12 : List GOp:=gS 54 [.mv 0,.fadd 1 4,.load 1 false 55,.load 5 true 4,.load 5 true 9,.mv 2,.call 21 [57,58,59]]
def c15r12z : List GOp:=gS 61 [.call 33 [54,56,60]]++gS 6 [.mv (ci 0),.mv 61]
def c15 : EFn:=⟨62,.seq (.reg c15r0) (.seq (.seq (.reg c15r1) (.block 0 (.seq (.reg c15r2) (.cond 14 (.seq (.reg c15r3) (.join (.seq (.reg c15r4) (.cond 19 (.reg c15r5) (.skip))) (.seq (.reg c15r6) (.ret)))) (.seq (.reg c15r7) (.cond 30 (.seq (.reg c15r8) (.ret)) (.seq (.reg c15r9) (.cond 38 (.seq (.reg c15r10) (.ret)) (.skip))))))))) (.join (.reg c15r11) (.seq (.sfx false false false true c15r12 c15r12z) (.ret)))),[.tmp 6,.tmp 7]⟩
theorem c15_ok : compF Tryz.prog 15=some c15.er:=by kernel_rfl
set_option maxHeartbeats 8000000 in
theorem law32_do_R {P:Program}(hP:P=Tryz.prog)(show0:Int)(places0:Int)(titles0:(List (Int×Entry)))(at0:(List (Int×Int)))(x_:Op)(known:(List ByteArray))(r:Int×Int×(List (Int×Entry))×(List (Int×Int)))(h:law32_do_b show0 places0 titles0 at0 x_ known=some r):SCall P 15 [.cells [oi show0,oi places0,.hd 1,.hd 2] 74,.mp (.int .i64) true (WM (Value.int .i64) eEntry titles0),.mp (.int .i64) false (WM (Value.int .i64) eIi64 at0)] [.ptr 0 0,.agg [oi x_.Kind,oi x_.Serial,oi x_.At,.d (.val (.string x_.Key)),dq eS x_.Sig],dq eS known] (fun sv own'=>sv=.tup [oi r.1,oi r.2.1]∧own'=[.cells [oi show0,oi places0,.hd 1,.hd 2] 74,.mp (.int .i64) true (WM (Value.int .i64) eEntry r.2.2.1),.mp (.int .i64) false (WM (Value.int .i64) eIi64 r.2.2.2)]):=by
 refine .walkF 3 rfl (Nat.le_of_ble_eq_true rfl) (hP▸c15_ok) fun K hK=>?_;unfold law32_do_b at h;cbv;refine brkG h ?_ ?_<;>intro h
 ·cbv;refine .g h (fun (key1:ByteArray)=>[.ptr 0 0]++rp 3 .top++[.ptr 3 0]++rp 3 .top++[.d (.val (.string key1))]++rp 53 .top) (fun key1=>[.cells [oi show0,oi places0,.hd 1,.hd 2] 74,.mp (.int .i64) true (WM (Value.int .i64) eEntry titles0),.mp (.int .i64) false (WM (Value.int .i64) eIi64 at0),.cells [oi x_.Kind,oi x_.Serial,oi x_.At,.d (.val (.string x_.Key)),dq eS x_.Sig] 32]) (fun y hm Kn1 hKn1=>?_) fun t h=>?_
  ·have h:=hm;clear hm;cbv;refine brkG h ?_ ?_<;>intro h
   ·cbv;refine .inl (hP▸c16_ok) ?_;cbv;refine .g h (fun v hv=>ref02_Decimal_R hP _ v hv) aw_ rfl (fun _=>rfl) fun v2 h=>?_;cbv;refine .g h fun h=>?_;cbv;refine .g h (fun v hv=>law32_secret_R hP _ v hv) aw_ rfl (fun _=>rfl) fun v3 h=>?_;cbv;refine .g h (fun v hv=>sign_Public_R hP _ v hv) aw_ rfl (fun _=>rfl) fun known4 h=>?_;cbv;obtain rfl:=oj h;exact hKn1 _ _ _ rfl (.nz (.mtE [0,1,2,3] mx))
   ·cbv;obtain rfl:=oj h;exact hKn1 _ _ _ rfl (.nz (.mtE [0,1,2,3] mx))
  obtain⟨key1,rfl⟩:=ez t;cbv;obtain⟨r5,hm,h⟩:=Option.bind_eq_some_iff.1 h;refine .embL [0,1,2] (registry_Registry_Issue_R hP _ _ _ _ _ _ _ hm) mx fun sv0 own0 hq _=>?_;obtain⟨rfl,rfl⟩:=hq;clear hm;cbv;obtain rfl:=oj h;exact hK _ _ [] [0,1,2] mx
 ·cbv;refine brkG h ?_ ?_<;>intro h
  ·cbv;obtain⟨r6,hm,h⟩:=Option.bind_eq_some_iff.1 h;refine .embL [0,1,2] (registry_Registry_Revoke_R hP _ _ _ _ _ _ _ hm) mx fun sv0 own0 hq _=>?_;obtain⟨rfl,rfl⟩:=hq;clear hm;cbv;obtain rfl:=oj h;exact hK _ _ [] [0,1,2] mx
  ·cbv;refine brkG h ?_ ?_<;>intro h
   ·cbv;obtain⟨r7,hm,h⟩:=Option.bind_eq_some_iff.1 h;refine .embL [0,1,2] (registry_Registry_Move_R hP _ _ _ _ _ _ _ hm) mx fun sv0 own0 hq _=>?_;obtain⟨rfl,rfl⟩:=hq;clear hm;cbv;obtain rfl:=oj h;exact hK _ _ [] [0,1,2] mx
   ·cbv;refine .g h (fun ((Serial8,Show9,Place10,First11,Chain12):Int×Int×Int×ByteArray×(List Transfer))=>[.ptr 0 0,.top,dq eS known,.top,.ptr 3 0]++rp 4 .top++[.ptr 4 0]++rp 52 .top) (fun (Serial8,Show9,Place10,First11,Chain12)=>[.cells [oi show0,oi places0,.hd 1,.hd 2] 74,.mp (.int .i64) true (WM (Value.int .i64) eEntry titles0),.mp (.int .i64) false (WM (Value.int .i64) eIi64 at0),.cells [oi x_.Kind,oi x_.Serial,oi x_.At,.d (.val (.string x_.Key)),dq eS x_.Sig] 32,.cells [oi Serial8,oi Show9,oi Place10,.d (.val (.string First11)),dq eTransfer Chain12] 35]) (fun y hm Kn1 hKn1=>?_) fun t h=>?_
    ·have h:=hm;clear hm;cbv;obtain⟨r13,hm,h⟩:=Option.bind_eq_some_iff.1 h;refine .embL [0,1,2] (registry_Registry_Title_R hP _ _ _ _ _ _ hm) mx fun sv0 own0 hq _=>?_;obtain⟨rfl,rfl⟩:=hq;clear hm;cbv;obtain rfl:=oj h;exact hKn1 _ _ _ rfl (.nz (.mtE [0,1,2,3,4] mx))
    obtain⟨Serial8,Show9,Place10,First11,Chain12⟩:=t;cbv;refine .g h (fun v hv=>law32_transfer_R hP _ _ _ v hv) aw_ rfl (fun _=>rfl) fun v14 h=>?_;cbv;obtain⟨r15,hm,h⟩:=Option.bind_eq_some_iff.1 h;refine .embL [0,1,2] (registry_Registry_Pass_R hP _ _ _ _ _ _ _ hm) mx fun sv0 own0 hq _=>?_;obtain⟨rfl,rfl⟩:=hq;clear hm;cbv;obtain rfl:=oj h;exact hK _ _ [] [0,1,2] mx
set_option maxHeartbeats 4000000 in
theorem law32_do_nil_R {P:Program}(hP:P=Tryz.prog)(x_:Op)(known:(List ByteArray))(r:Int×Int)(h:law32_do_nil_g x_ known=some r):Fn1 P 15 [.d (.val (.pointer none)),vOp x_,vLS known] (.tup [vIi64 r.1,vIi64 r.2]):=by
 refine .walkE (hP▸c15_ok) fun K hK=>?_;unfold law32_do_nil_g at h;cbv;refine brkG h ?_ ?_<;>intro h
 ·cbv;refine .g h (fun (key1:ByteArray)=>[.d (.val (.pointer none))]++rp 3 .top++[.ptr 0 0]++rp 3 .top++[.d (.val (.string key1))]++rp 53 .top) (fun key1=>[.cells [oi x_.Kind,oi x_.Serial,oi x_.At,.d (.val (.string x_.Key)),dq eS x_.Sig] 32]) (fun y hm Kn1 hKn1=>?_) fun t h=>?_
  ·have h:=hm;clear hm;cbv;refine brkG h ?_ ?_<;>intro h
   ·cbv;refine .inl (hP▸c16_ok) ?_;cbv;refine .g h (fun v hv=>ref02_Decimal_R hP _ v hv) aw_ rfl (fun _=>rfl) fun v2 h=>?_;cbv;refine .g h fun h=>?_;cbv;refine .g h (fun v hv=>law32_secret_R hP _ v hv) aw_ rfl (fun _=>rfl) fun v3 h=>?_;cbv;refine .g h (fun v hv=>sign_Public_R hP _ v hv) aw_ rfl (fun _=>rfl) fun known4 h=>?_;cbv;obtain rfl:=oj h;exact hKn1 _ _ _ rfl (.nz (.mtE [0] mx))
   ·cbv;obtain rfl:=oj h;exact hKn1 _ _ _ rfl (.nz (.mtE [0] mx))
  obtain⟨key1,rfl⟩:=ez t;cbv;refine .g h (fun v hv=>registry_Registry_Issue_nil_R hP _ _ v hv) aw_ rfl (fun _=>rfl) fun v5 h=>?_;cbv;obtain rfl:=oj h;exact hK _ _ aw_
 ·cbv;refine brkG h ?_ ?_<;>intro h
  ·cbv;refine .g h (fun v hv=>registry_Registry_Revoke_nil_R hP _ _ v hv) aw_ rfl (fun _=>rfl) fun v6 h=>?_;cbv;obtain rfl:=oj h;exact hK _ _ aw_
  ·cbv;refine brkG h ?_ ?_<;>intro h
   ·cbv;refine .g h (fun v hv=>registry_Registry_Move_nil_R hP _ _ v hv) aw_ rfl (fun _=>rfl) fun v7 h=>?_;cbv;obtain rfl:=oj h;exact hK _ _ aw_
   ·cbv;refine .g h (fun ((Serial8,Show9,Place10,First11,Chain12):Int×Int×Int×ByteArray×(List Transfer))=>[.d (.val (.pointer none)),.top,dq eS known,.top,.ptr 0 0]++rp 4 .top++[.ptr 1 0]++rp 52 .top) (fun (Serial8,Show9,Place10,First11,Chain12)=>[.cells [oi x_.Kind,oi x_.Serial,oi x_.At,.d (.val (.string x_.Key)),dq eS x_.Sig] 32,.cells [oi Serial8,oi Show9,oi Place10,.d (.val (.string First11)),dq eTransfer Chain12] 35]) (fun y hm Kn1 hKn1=>?_) fun t h=>?_
    ·have h:=hm;clear hm;cbv;refine .g h (fun v hv=>registry_Registry_Title_nil_R hP _ v hv) aw_ rfl (fun _=>rfl) fun v13 h=>?_;cbv;obtain rfl:=oj h;exact hKn1 _ _ _ rfl (.nz (.mtE [0,1] mx))
    obtain⟨Serial8,Show9,Place10,First11,Chain12⟩:=t;cbv;refine .g h (fun v hv=>law32_transfer_R hP _ _ _ v hv) aw_ rfl (fun _=>rfl) fun v14 h=>?_;cbv;refine .g h (fun v hv=>registry_Registry_Pass_nil_R hP _ _ v hv) aw_ rfl (fun _=>rfl) fun v15 h=>?_;cbv;obtain rfl:=oj h;exact hK _ _ aw_
end Go.SX.Rg
namespace Go.SX.Rg
open Go Go.SX Go.Proofs
set_option maxRecDepth 100000
noncomputable def title_Pass_g (t_:Title)(to:ByteArray)(secret:ByteArray):Option (Title×Int) :=
 Option.bind (
 Option.bind (title_Valid_g t_) fun v2 =>
 bif (io.not v2) then (
 some true
 ) else (
 Option.bind (digest_Is_g to) fun v3 =>
 some (io.not v3)
 )
 ) fun v1 =>
 bif v1 then (
 some ((Title.mk 0 0 0 (⟨#[]⟩) []),1)
 ) else (
 bif (io.eq (io.len (W eTransfer t_.Chain)) 50) then (
 some ((Title.mk 0 0 0 (⟨#[]⟩) []),3)
 ) else (
 Option.bind (title_used_g t_ to) fun v4 =>
 bif v4 then (
 some ((Title.mk 0 0 0 (⟨#[]⟩) []),9)
 ) else (
 Option.bind (sign_Public_g secret) fun v5 =>
 Option.bind (title_Owner_g t_) fun v6 =>
 bif (io.not (io.seq v5 v6)) then (
 some ((Title.mk 0 0 0 (⟨#[]⟩) []),20)
 ) else (
 Option.bind (slices_CloneW_g t_.Chain) fun l7 =>
 Option.bind (title_Message_g t_ to) fun v8 =>
 Option.bind (sign_Sign_g secret v8) fun v9 =>
 Option.bind (some [(Transfer.mk to v9)]) fun l10 =>
 Option.bind (appG l7 l10) fun l11 =>
 some ((Title.mk t_.Serial t_.Show t_.Place t_.First l11),0)
 )
 )
 )
 )
end Go.SX.Rg
namespace Go.SX.Rg
open Go Go.SX Go.Proofs
set_option maxRecDepth 100000
noncomputable def law32_head_g : Option (Bool) :=
 optN (registry_New_b 2 5) (
 Option.bind (sign_Public_g (⟨#[107]⟩)) fun k1 =>
 Option.bind (
 Option.bind (registry_Registry_Issue_b 2 5 ([]:(List (Int×Entry))) ([]:(List (Int×Int))) 3 k1) fun r6 =>
 some (r6.2.2.1,r6.2.2.2,r6.1,r6.2.1)
 ) fun (titles2,at3,a4,e5) =>
 Option.bind (
 Option.bind (digest_Sum_g (⟨#[108]⟩)) fun v10 =>
 Option.bind (registry_Registry_Issue_b 2 5 titles2 at3 3 v10) fun r11 =>
 some (r11.2.2.1,r11.2.2.2,r11.2.1)
 ) fun (titles7,at8,f9) =>
 Option.bind (
 Option.bind (registry_Registry_At_b 2 5 titles7 at8 3) fun r13 =>
 some r13
 ) fun at12 =>
 Option.bind (
 Option.bind (registry_Registry_Move_b 2 5 titles7 at8 30001 4) fun r17 =>
 some (r17.2.1,r17.2.2,r17.1)
 ) fun (titles14,at15,g16) =>
 Option.bind (
 Option.bind (digest_Sum_g (⟨#[108]⟩)) fun v22 =>
 Option.bind (registry_Registry_Issue_b 2 5 titles14 at15 3 v22) fun r23 =>
 some (r23.2.2.1,r23.2.2.2,r23.1,r23.2.1)
 ) fun (titles18,at19,b20,h21) =>
 Option.bind (
 Option.bind (registry_Registry_Title_b 2 5 titles18 at19 30001) fun r30 =>
 some (r30.1.Serial,r30.1.Show,r30.1.Place,r30.1.First,r30.1.Chain,r30.2.2)
 ) fun (Serial24,Show25,Place26,First27,Chain28,i29) =>
 Option.bind (digest_Sum_g (⟨#[109]⟩)) fun v31 =>
 Option.bind (title_Pass_g (Title.mk Serial24 Show25 Place26 First27 Chain28) v31 (⟨#[107]⟩)) fun v32 =>
 Option.bind (
 bif (io.not (io.eq v32.2 0)) then (
 some true
 ) else (
 some (io.not (io.eq (io.len (W eTransfer v32.1.Chain)) 1))
 )
 ) fun v33 =>
 bif v33 then (
 some false
 ) else (
 Option.bind (
 Option.bind (idxG v32.1.Chain 0) fun x37 =>
 Option.bind (registry_Registry_Pass_b 2 5 titles18 at19 30001 x37) fun r38 =>
 some (r38.2.1,r38.2.2,r38.1)
 ) fun (titles34,at35,l36) =>
 Option.bind (
 Option.bind (idxG v32.1.Chain 0) fun x42 =>
 Option.bind (registry_Registry_Pass_b 2 5 titles34 at35 30001 x42) fun r43 =>
 some (r43.2.1,r43.2.2,r43.1)
 ) fun (titles39,at40,m41) =>
 Option.bind (
 Option.bind (registry_Registry_Revoke_b 2 5 titles39 at40 30001 100) fun r47 =>
 some (r47.2.1,r47.2.2,r47.1)
 ) fun (titles44,at45,n46) =>
 Option.bind (
 Option.bind (registry_Registry_Revoke_b 2 5 titles44 at45 30001 101) fun r51 =>
 some (r51.2.1,r51.2.2,r51.1)
 ) fun (titles48,at49,o50) =>
 Option.bind (
 Option.bind (digest_Sum_g (⟨#[109]⟩)) fun v56 =>
 Option.bind (registry_Registry_Issue_b 2 5 titles48 at49 4 v56) fun r57 =>
 some (r57.2.2.1,r57.2.2.2,r57.1,r57.2.1)
 ) fun (titles52,at53,c54,p55) =>
 Option.bind (
 Option.bind (registry_Registry_Title_b 2 5 titles52 at53 30001) fun r65 =>
 some (r65.1.Serial,r65.1.Show,r65.1.Place,r65.1.First,r65.1.Chain,r65.2.1,r65.2.2)
 ) fun (Serial58,Show59,Place60,First61,Chain62,gone63,q64) =>
 Option.bind (
 bif (io.eq e5 0) then (
 bif (io.eq a4 30001) then (
 bif (io.eq f9 16) then (
 bif (io.eq at12 30001) then (
 bif (io.eq g16 0) then (
 bif (io.eq h21 0) then (
 bif (io.eq b20 30002) then (
 bif (io.eq i29 0) then (
 bif (io.eq Place26 4) then (
 bif (io.eq l36 0) then (
 bif (io.eq m41 20) then (
 bif (io.eq n46 0) then (
 some (io.eq o50 27)
 ) else (
 some false
 )
 ) else (
 some false
 )
 ) else (
 some false
 )
 ) else (
 some false
 )
 ) else (
 some false
 )
 ) else (
 some false
 )
 ) else (
 some false
 )
 ) else (
 some false
 )
 ) else (
 some false
 )
 ) else (
 some false
 )
 ) else (
 some false
 )
 ) else (
 some false
 )
 ) fun one66 =>
 bif one66 then (
 bif (io.eq p55 0) then (
 bif (io.eq c54 30003) then (
 bif (io.eq q64 0) then (
 bif (io.eq gone63 100) then (
 Option.bind (title_Owner_g (Title.mk Serial58 Show59 Place60 First61 Chain62)) fun v67 =>
 Option.bind (digest_Sum_g (⟨#[109]⟩)) fun v68 =>
 bif (io.seq v67 v68) then (
 Option.bind (registry_Registry_Revoked_b 2 5 titles52 at53) fun r69 =>
 Option.bind (some [30001]) fun l70 =>
 Option.bind (ref11_Ints_g r69 l70) fun v71 =>
 bif v71 then (
 optN (registry_New_b 20 1) none (
 Option.bind (registry_Registry_Revoke_nil_g 1 1) fun v72 =>
 some (io.eq v72 1)
 )
 ) else (
 some false
 )
 ) else (
 some false
 )
 ) else (
 some false
 )
 ) else (
 some false
 )
 ) else (
 some false
 )
 ) else (
 some false
 )
 ) else (
 some false
 )
 )
 ) none
end Go.SX.Rg
namespace Go.SX.Rg
open Go Go.SX Go.Proofs
set_option maxRecDepth 100000
noncomputable def law32_RegistryMatchesReference_l14 (l:(List Op))(show_:Int)(places:Int)(titles21:(List (Int×Entry)))(at22:(List (Int×Int)))(Titles26:(List Title))(Gone27:(List Int)):Int→Option ((Int) ⊕ (((List (Int×Entry))×(List (Int×Int))×(List Title)×(List Int)) ⊕ (((List (Int×Entry))×(List (Int×Int))×(List Title)×(List Int)×Int) ⊕ ((Unit) ⊕ (Bool)))))
 | k45 =>
 bif (io.le k45 (io.len (W eOp l))) then (
 Option.bind (
 Option.bind (registry_Registry_Title_b show_ places titles21 at22 (io.ar .add .i64 (io.ar .mul .i64 (io.ar .add .i64 (io.mm true show_ 0) 1) 10000) k45)) fun r53 =>
 some (r53.1.Serial,r53.1.Show,r53.1.Place,r53.1.First,r53.1.Chain,r53.2.1,r53.2.2)
 ) fun (Serial46,Show47,Place48,First49,Chain50,g51,a52) =>
 Option.bind (
 Option.bind (ref32_Registry_Title_b show_ places Titles26 Gone27 (io.ar .add .i64 (io.ar .mul .i64 (io.ar .add .i64 (io.mm true show_ 0) 1) 10000) k45)) fun r61 =>
 some (r61.1.Serial,r61.1.Show,r61.1.Place,r61.1.First,r61.1.Chain,r61.2.1,r61.2.2)
 ) fun (Serial54,Show55,Place56,First57,Chain58,h59,b60) =>
 Option.bind (
 bif (io.not (io.eq a52 b60)) then (
 some true
 ) else (
 bif (io.not (io.eq g51 h59)) then (
 some true
 ) else (
 Option.bind (ref30_Same_g (Title.mk Serial46 Show47 Place48 First49 Chain50) (Title.mk Serial54 Show55 Place56 First57 Chain58)) fun v63 =>
 some (io.not v63)
 )
 )
 ) fun v62 =>
 bif v62 then (
 some (.inr (.inr (.inr (.inr false))))
 ) else (
 some (.inl (io.ar .add .i64 k45 1))
 )
 ) else (
 some (.inr (.inl (titles21,at22,Titles26,Gone27)))
 )
noncomputable def law32_RegistryMatchesReference_l12 (l:(List Op))(show_:Int)(places:Int)(known4:(List ByteArray)):((List (Int×Entry))×(List (Int×Int))×(List Title)×(List Int)×Int)→Option (((List (Int×Entry))×(List (Int×Int))×(List Title)×(List Int)×Int) ⊕ ((Unit) ⊕ (Bool)))
 | (titles5,at6,Titles7,Gone8,i9) =>
 bif (io.lt i9 (io.len (W eOp l))) then (
 orR (
 Option.bind (idxG l i9) fun x14 =>
 Option.bind (
 Option.bind (registry_Registry_Title_b show_ places titles5 at6 x14.Serial) fun r20 =>
 some (r20.1.Serial,r20.1.Show,r20.1.Place,r20.1.First,r20.1.Chain)
 ) fun (Serial15,Show16,Place17,First18,Chain19) =>
 Option.bind (
 Option.bind (law32_do_b show_ places titles5 at6 x14 known4) fun r25 =>
 some (r25.2.2.1,r25.2.2.2,r25.1,r25.2.1)
 ) fun (titles21,at22,n23,e24) =>
 Option.bind (
 bif (io.eq x14.Kind 0) then (
 Option.bind (
 bif (io.seq x14.Key (⟨#[]⟩)) then (
 Option.bind (ref02_Decimal_g x14.At) fun v31 =>
 Option.bind (catG (⟨#[102,105,114,115,116,32]⟩) v31) fun _ =>
 Option.bind (law32_secret_g (io.cat (⟨#[102,105,114,115,116,32]⟩) v31)) fun v32 =>
 Option.bind (sign_Public_g v32) fun l33 =>
 some l33
 ) else (
 some x14.Key
 )
 ) fun key30 =>
 Option.bind (ref32_Registry_Issue_b show_ places Titles7 Gone8 x14.At key30) fun r34 =>
 some (r34.2.2.1,r34.2.2.2,r34.1,r34.2.1)
 ) else (
 bif (io.eq x14.Kind 2) then (
 Option.bind (ref32_Registry_Revoke_b show_ places Titles7 Gone8 x14.Serial x14.At) fun r35 =>
 some (r35.2.1,r35.2.2,0,r35.1)
 ) else (
 bif (io.eq x14.Kind 3) then (
 Option.bind (ref32_Registry_Move_b show_ places Titles7 Gone8 x14.Serial x14.At) fun r36 =>
 some (r36.2.1,r36.2.2,0,r36.1)
 ) else (
 Option.bind (law32_transfer_g x14 (Title.mk Serial15 Show16 Place17 First18 Chain19) known4) fun v37 =>
 Option.bind (ref32_Registry_Pass_b show_ places Titles7 Gone8 x14.Serial v37) fun r38 =>
 some (r38.2.1,r38.2.2,0,r38.1)
 )
 )
 )
 ) fun (Titles26,Gone27,m28,f29) =>
 Option.bind (
 bif (io.not (io.eq n23 m28)) then (
 some true
 ) else (
 bif (io.not (io.eq e24 f29)) then (
 some true
 ) else (
 Option.bind (registry_Registry_Revoked_b show_ places titles21 at22) fun r40 =>
 Option.bind (ref32_Registry_Revoked_b show_ places Titles26 Gone27) fun r41 =>
 Option.bind (ref11_Ints_g r40 r41) fun v42 =>
 bif (io.not v42) then (
 some true
 ) else (
 Option.bind (registry_Registry_At_b show_ places titles21 at22 x14.At) fun r43 =>
 Option.bind (ref32_Registry_At_b show_ places Titles26 Gone27 x14.At) fun r44 =>
 some (io.not (io.eq r43 r44))
 )
 )
 )
 ) fun v39 =>
 bif v39 then (
 some (.inr (.inr (.inr false)))
 ) else (
 whileG (law32_RegistryMatchesReference_l14 l show_ places titles21 at22 Titles26 Gone27) 1
 )
 ) fun (titles10,at11,Titles12,Gone13) =>
 some (.inl (titles10,at11,Titles12,Gone13,(io.ar .add .i64 i9 1)))
 ) else (
 some (.inr (.inl ()))
 )
noncomputable def law32_RegistryMatchesReference_l28 (l:(List Op))(show_:Int):Int→Option ((Int) ⊕ ((Unit) ⊕ ((Int) ⊕ ((Unit) ⊕ (Bool)))))
 | k94 =>
 bif (io.le k94 (io.len (W eOp l))) then (
 Option.bind (
 Option.bind (registry_Registry_Title_nil_g (io.ar .add .i64 (io.ar .mul .i64 (io.ar .add .i64 (io.mm true show_ 0) 1) 10000) k94)) fun v102 =>
 some (v102.1.Serial,v102.1.Show,v102.1.Place,v102.1.First,v102.1.Chain,v102.2.1,v102.2.2)
 ) fun (Serial95,Show96,Place97,First98,Chain99,g100,a101) =>
 Option.bind (
 Option.bind (ref32_Registry_Title_nil_g (io.ar .add .i64 (io.ar .mul .i64 (io.ar .add .i64 (io.mm true show_ 0) 1) 10000) k94)) fun v110 =>
 some (v110.1.Serial,v110.1.Show,v110.1.Place,v110.1.First,v110.1.Chain,v110.2.1,v110.2.2)
 ) fun (Serial103,Show104,Place105,First106,Chain107,h108,b109) =>
 Option.bind (
 bif (io.not (io.eq a101 b109)) then (
 some true
 ) else (
 bif (io.not (io.eq g100 h108)) then (
 some true
 ) else (
 Option.bind (ref30_Same_g (Title.mk Serial95 Show96 Place97 First98 Chain99) (Title.mk Serial103 Show104 Place105 First106 Chain107)) fun v112 =>
 some (io.not v112)
 )
 )
 ) fun v111 =>
 bif v111 then (
 some (.inr (.inr (.inr (.inr false))))
 ) else (
 some (.inl (io.ar .add .i64 k94 1))
 )
 ) else (
 some (.inr (.inl ()))
 )
noncomputable def law32_RegistryMatchesReference_l26 (l:(List Op))(known65:(List ByteArray))(show_:Int):Int→Option ((Int) ⊕ ((Unit) ⊕ (Bool)))
 | i66 =>
 bif (io.lt i66 (io.len (W eOp l))) then (
 orR (
 Option.bind (idxG l i66) fun x67 =>
 Option.bind (
 Option.bind (registry_Registry_Title_nil_g x67.Serial) fun v73 =>
 some (v73.1.Serial,v73.1.Show,v73.1.Place,v73.1.First,v73.1.Chain)
 ) fun (Serial68,Show69,Place70,First71,Chain72) =>
 Option.bind (
 Option.bind (law32_do_nil_g x67 known65) fun v76 =>
 some (v76.1,v76.2)
 ) fun (n74,e75) =>
 Option.bind (
 bif (io.eq x67.Kind 0) then (
 Option.bind (
 bif (io.seq x67.Key (⟨#[]⟩)) then (
 Option.bind (ref02_Decimal_g x67.At) fun v80 =>
 Option.bind (catG (⟨#[102,105,114,115,116,32]⟩) v80) fun _ =>
 Option.bind (law32_secret_g (io.cat (⟨#[102,105,114,115,116,32]⟩) v80)) fun v81 =>
 Option.bind (sign_Public_g v81) fun l82 =>
 some l82
 ) else (
 some x67.Key
 )
 ) fun key79 =>
 Option.bind (ref32_Registry_Issue_nil_g x67.At key79) fun v83 =>
 some (v83.1,v83.2)
 ) else (
 bif (io.eq x67.Kind 2) then (
 Option.bind (ref32_Registry_Revoke_nil_g x67.Serial x67.At) fun f84 =>
 some (0,f84)
 ) else (
 bif (io.eq x67.Kind 3) then (
 Option.bind (ref32_Registry_Move_nil_g x67.Serial x67.At) fun f85 =>
 some (0,f85)
 ) else (
 Option.bind (law32_transfer_g x67 (Title.mk Serial68 Show69 Place70 First71 Chain72) known65) fun v86 =>
 Option.bind (ref32_Registry_Pass_nil_g x67.Serial v86) fun f87 =>
 some (0,f87)
 )
 )
 )
 ) fun (m77,f78) =>
 Option.bind (
 bif (io.not (io.eq n74 m77)) then (
 some true
 ) else (
 bif (io.not (io.eq e75 f78)) then (
 some true
 ) else (
 Option.bind (registry_Registry_Revoked_nil_g) fun v89 =>
 Option.bind (ref32_Registry_Revoked_nil_g) fun v90 =>
 Option.bind (ref11_Ints_g v89 v90) fun v91 =>
 bif (io.not v91) then (
 some true
 ) else (
 Option.bind (registry_Registry_At_nil_g x67.At) fun v92 =>
 Option.bind (ref32_Registry_At_nil_g x67.At) fun v93 =>
 some (io.not (io.eq v92 v93))
 )
 )
 )
 ) fun v88 =>
 bif v88 then (
 some (.inr (.inr (.inr false)))
 ) else (
 whileG (law32_RegistryMatchesReference_l28 l show_) 1
 )
 ) fun _ =>
 some (.inl (io.ar .add .i64 i66 1))
 ) else (
 some (.inr (.inl ()))
 )
noncomputable def law32_RegistryMatchesReference_g (show_:Int)(places:Int)(l:(List Op)):Option (Bool) :=
 Option.bind (law32_head_g) fun up1 =>
 Option.bind (law32_few_g l) fun v2 =>
 bif (io.not v2) then (
 some up1
 ) else (
 optN (registry_New_b show_ places) (
 optN (ref32_New_b show_ places) (
 Option.bind (
 bif (io.beq true false false) then (
 some true
 ) else (
 some (io.lt 50 places)
 )
 ) fun v3 =>
 bif v3 then (
 bif up1 then (
 some (io.beq false false false)
 ) else (
 some false
 )
 ) else (
 Option.bind (law32_secrets_g l) fun known4 =>
 orR (
 whileG (law32_RegistryMatchesReference_l12 l show_ places known4) ([],[],([]:(List Title)),([]:(List Int)),0)
 ) fun _ =>
 some up1
 )
 ) none
 ) (
 optN (ref32_New_b show_ places) none (
 Option.bind (
 bif (io.beq true true true) then (
 some true
 ) else (
 some (io.lt 50 places)
 )
 ) fun v64 =>
 bif v64 then (
 bif up1 then (
 some (io.beq false true true)
 ) else (
 some false
 )
 ) else (
 Option.bind (law32_secrets_g l) fun known65 =>
 orR (
 whileG (law32_RegistryMatchesReference_l26 l known65 show_) 0
 ) fun _ =>
 some up1
 )
 )
 )
 )
end Go.SX.Rg
namespace Go.SX.Rg
open Go Go.SX Go.Proofs
set_option maxRecDepth 100000
def c32r0 : List GOp:=gS 3 [.box 35 0]++gS 6 [.alloc 35 (.agg #[oz,oz,oz,(.string ⟨#[]⟩),(.slice none 0 0)]),.mv (ci 0)]
def c32r1 : List GOp:=gS 9 [.load 5 true 3,.call 41 [9],.un .not 10,.mv 11]++gQ 12 false 13 [.mv 1,.call 57 [13],.un .not 14]++gS 16 [.pick 12 (cB true) 15]++gS 8 [.mv 16]
def c32r2 : List GOp:=gS 17 [.build (.agg #[oz,oz,oz,(.string ⟨#[]⟩),(.slice none 0 0)]) []]++[⟨none,.store 5 6 17,none⟩]++gS 7 [.mv (ci 1)]
def c32r3 : List GOp:=gS 19 [.fadd 4 3,.load 1 false 19,.len false 20,.bin .eql 21 (ci 50)]++gS 18 [.mv 22]
def c32r4 : List GOp:=gS 23 [.build (.agg #[oz,oz,oz,(.string ⟨#[]⟩),(.slice none 0 0)]) []]++[⟨none,.store 5 6 23,none⟩]++gS 7 [.mv (ci 3)]
def c32r5 : List GOp:=gS 25 [.load 5 true 3,.mv 1,.call 58 [25,26]]++gS 24 [.mv 27]
def c32r6 : List GOp:=gS 28 [.build (.agg #[oz,oz,oz,(.string ⟨#[]⟩),(.slice none 0 0)]) []]++[⟨none,.store 5 6 28,none⟩]++gS 7 [.mv (ci 9)]
def c32r7 : List GOp:=gS 30 [.mv 2,.call 30 [30],.load 5 true 3,.call 35 [32],.bin .neq 31 33]++gS 29 [.mv 34]
def c32r8 : List GOp:=gS 35 [.build (.agg #[oz,oz,oz,(.string ⟨#[]⟩),(.slice none 0 0)]) []]++[⟨none,.store 5 6 35,none⟩]++gS 7 [.mv (ci 20)]
def c32r9 : List GOp:=gS 36 [.fadd 4 3,.load 1 false 36,.call 59 [37],.mv 1,.mv 2,.load 5 true 3,.mv 1,.call 36 [41,42],.call 37 [40,43]]
def c32r9z : List GOp:=gS 45 [.build (.agg #[(.string ⟨#[]⟩),(.slice none 0 0)]) [((0,1),39),((1,1),44)],.bslice 46 2 1 (.agg #[(.string ⟨#[]⟩),(.slice none 0 0)]) [(0,45)],.app 46 2 40 (.agg #[(.string ⟨#[]⟩),(.slice none 0 0)]) 38 46,.fadd 4 3]++[⟨none,.store 1 48 47,none⟩]
def c32r10 : List GOp:=gS 49 [.load 5 true 3]++[⟨none,.store 5 6 49,none⟩]++gS 7 [.mv (ci 0)]
def c32 : EFn:=⟨50,.seq (.reg c32r0) (.seq (.block 0 (.join (.reg c32r1) (.cond 8 (.seq (.reg c32r2) (.ret)) (.seq (.reg c32r3) (.cond 18 (.seq (.reg c32r4) (.ret)) (.seq (.reg c32r5) (.cond 24 (.seq (.reg c32r6) (.ret)) (.seq (.par false false false true 3 c32r7) (.cond 29 (.seq (.reg c32r8) (.ret)) (.skip)))))))))) (.seq (.eff false false false [2] c32r9 c32r9z) (.seq (.reg c32r10) (.ret)))),[.cell 6 5 true,.tmp 7]⟩
theorem c32_ok : compF Tryz.prog 32=some c32.er:=by kernel_rfl
set_option maxHeartbeats 4000000 in
theorem title_Pass_R {P:Program}(hP:P=Tryz.prog)(t_:Title)(to:ByteArray)(secret:ByteArray)(r:Title×Int)(h:title_Pass_g t_ to secret=some r):Fn1 P 32 [vTitle t_,vS to,vS secret] (.tup [vTitle r.1,vIi64 r.2]):=by
 refine .walkE2 (hP▸c32_ok) fun K hK=>?_;unfold title_Pass_g at h;cbv;refine .g h (fun (v1:Bool)=>[.top,.d (.val (.string to)),.d (.val (.string secret)),.ptr 0 0,.top,.top,.ptr 1 0,.top,ob v1]++rp 41 .top) (fun v1=>[.cells [oi t_.Serial,oi t_.Show,oi t_.Place,.d (.val (.string t_.First)),dq eTransfer t_.Chain] 35,.cells [oi 0,oi 0,oi 0,.d (.val (.string (⟨#[]⟩))),.d (.val (.slice none 0 0))] 35]) (fun y hm Kn1 hKn1=>?_) fun t h=>?_
 ·have h:=hm;clear hm;cbv;refine .g h (fun v hv=>title_Valid_R hP _ v hv) aw_ rfl (fun _=>rfl) fun v2 h=>?_;cbv;refine brkG h ?_ ?_<;>intro h
  ·cbv;obtain rfl:=oj h;exact hKn1 _ _ _ rfl (.nz (.mtE [0,1] mx))
  ·cbv;refine .g h (fun v hv=>digest_Is_R hP _ v hv) aw_ rfl (fun _=>rfl) fun v3 h=>?_;cbv;obtain rfl:=oj h;exact hKn1 _ _ _ rfl (.nz (.mtE [0,1] mx))
 obtain⟨v1,rfl⟩:=ez t;cbv;refine brkG h ?_ ?_<;>intro h
 ·cbv;obtain rfl:=oj h;exact hK _ _ aw_
 ·cbv;refine brkG h ?_ ?_<;>intro h
  ·cbv;obtain rfl:=oj h;exact hK _ _ aw_
  ·cbv;refine .g h (fun v hv=>title_used_R hP _ _ v hv) aw_ rfl (fun _=>rfl) fun v4 h=>?_;cbv;refine brkG h ?_ ?_<;>intro h
   ·cbv;obtain rfl:=oj h;exact hK _ _ aw_
   ·cbv;refine .g h (fun v hv=>sign_Public_R hP _ v hv) aw_ rfl (fun _=>rfl) fun v5 h=>?_;cbv;refine .g h (fun v hv=>title_Owner_R hP _ v hv) aw_ rfl (fun _=>rfl) fun v6 h=>?_;cbv;refine brkG h ?_ ?_<;>intro h
    ·cbv;obtain rfl:=oj h;exact hK _ _ aw_
    ·cbv;refine .gx [] 2 ?_;cbv;obtain⟨l7,hm,h⟩:=Option.bind_eq_some_iff.1 h;refine .emb [] (slices_CloneW_O hP _ _ hm) mx ?_;clear hm;cbv;refine⟨.of (by (cbv;repeat (first | exact trivial | refine⟨by first | rfl | trivial,?_⟩))),?_⟩;cbv;refine .g h (fun v hv=>title_Message_R hP _ _ v hv) aw_ rfl (fun _=>rfl) fun v8 h=>?_;cbv;refine .g h (fun v hv=>sign_Sign_R hP _ _ v hv) aw_ rfl (fun _=>rfl) fun v9 h=>?_;cbv;refine .g (e:=eTransfer) h (W_cons aw_ (W_nil' _)) fun l10 h=>?_;cbv;refine .g h rfl (fun _=>rfl) (by decide) fun l11 h=>?_;cbv;obtain rfl:=oj h;exact hK _ _ aw_
end Go.SX.Rg
namespace Go.SX.Rg
open Go Go.SX Go.Proofs
set_option maxRecDepth 100000
end Go.SX.Rg
namespace Go.SX.Rg
open Go Go.SX Go.Proofs
set_option maxRecDepth 100000
end Go.SX.Rg
namespace Go.SX.Rg
open Go Go.SX Go.Proofs
set_option maxRecDepth 100000
end Go.SX.Rg
namespace Go.SX.Rg
open Go Go.SX Go.Proofs
set_option maxRecDepth 100000
end Go.SX.Rg
