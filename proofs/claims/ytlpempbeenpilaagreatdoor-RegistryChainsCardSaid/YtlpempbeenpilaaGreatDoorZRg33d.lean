/- Parts of the proof. -/
import Derived.Test.YtlpempbeenpilaaGreatDoorZRgT
import Derived.Test.YtlpempbeenpilaaGreatDoorZRg46d
import Derived.Test.YtlpempbeenpilaaGreatDoorZRgH9
import Derived.Test.YtlpempbeenpilaaGreatDoorZRg30d
import Derived.Test.YtlpempbeenpilaaGreatDoorZRg44d
import Derived.Test.YtlpempbeenpilaaGreatDoorZRg53
set_option linter.unusedSimpArgs false
set_option linter.unusedVariables false
set_option linter.unusedSectionVars false
namespace Go.SX.Rg
open Go Go.SX Go.Proofs
set_option maxRecDepth 100000
noncomputable def registry_Registry_Pass_b (show0:Int)(places0:Int)(titles0:(List (Int×Entry)))(at0:(List (Int×Int)))(serial:Int)(t_:Transfer):Option (Int×(List (Int×Entry))×(List (Int×Int))) :=
 optG (mlook titles0 serial) (fun y1 =>
 bif (io.lt 0 y1.gone) then (
 some (27,titles0,at0)
 ) else (
 Option.bind (
 bif (io.le 50 (io.len (W eTransfer y1.Title.Chain))) then (
 some (t_.Sig,y1.Title.Chain,3)
 ) else (
 Option.bind (slices_Clone_2_g t_.Sig) fun v5 =>
 Option.bind (slices_CloneW_g y1.Title.Chain) fun l6 =>
 Option.bind (some [(Transfer.mk t_.To v5)]) fun l7 =>
 Option.bind (appG l6 l7) fun l8 =>
 Option.bind (title_Valid_g (Title.mk y1.Title.Serial y1.Title.Show y1.Title.Place y1.Title.First l8)) fun v9 =>
 bif (io.not v9) then (
 some (v5,l8,20)
 ) else (
 some (v5,l8,0)
 )
 )
 ) fun (Sig2,Chain3,e4) =>
 bif (io.not (io.eq e4 0)) then (
 some (e4,titles0,at0)
 ) else (
 Option.bind (some (mputG titles0 serial (Entry.mk (Title.mk y1.Title.Serial y1.Title.Show y1.Title.Place y1.Title.First Chain3) y1.gone))) fun m10 =>
 Option.bind (
 bif (io.le 0 y1.Title.Place) then (
 Option.bind (some (mdelG at0 y1.Title.Place)) fun m12 =>
 some m12
 ) else (
 some at0
 )
 ) fun own11 =>
 Option.bind (
 bif (io.le 0 y1.Title.Place) then (
 some (io.eq y1.gone 0)
 ) else (
 some false
 )
 ) fun v13 =>
 bif v13 then (
 Option.bind (some (mputG own11 y1.Title.Place serial)) fun m14 =>
 some (0,m10,m14)
 ) else (
 some (0,m10,own11)
 )
 )
 )
 ) (
 some (11,titles0,at0)
 )
end Go.SX.Rg
namespace Go.SX.Rg
open Go Go.SX Go.Proofs
set_option maxRecDepth 100000
noncomputable def law32_do_b (show0:Int)(places0:Int)(titles0:(List (Int×Entry)))(at0:(List (Int×Int)))(x_:Op)(known:(List ByteArray)):Option (Int×Int×(List (Int×Entry))×(List (Int×Int))) :=
 bif (io.eq x_.Kind 0) then (
 Option.bind (
 bif (io.seq x_.Key (⟨#[]⟩)) then (
 Option.bind (ref02_Decimal_g x_.At) fun v2 =>
 Option.bind (catG (⟨#[102,105,114,115,116,32]⟩) v2) fun _ =>
 Option.bind (law32_secret_g (io.cat (⟨#[102,105,114,115,116,32]⟩) v2)) fun v3 =>
 Option.bind (sign_Public_g v3) fun known4 =>
 some known4
 ) else (
 some x_.Key
 )
 ) fun key1 =>
 Option.bind (registry_Registry_Issue_b show0 places0 titles0 at0 x_.At key1) fun r5 =>
 some (r5.1,r5.2.1,r5.2.2.1,r5.2.2.2)
 ) else (
 bif (io.eq x_.Kind 2) then (
 Option.bind (registry_Registry_Revoke_b show0 places0 titles0 at0 x_.Serial x_.At) fun r6 =>
 some (0,r6.1,r6.2.1,r6.2.2)
 ) else (
 bif (io.eq x_.Kind 3) then (
 Option.bind (registry_Registry_Move_b show0 places0 titles0 at0 x_.Serial x_.At) fun r7 =>
 some (0,r7.1,r7.2.1,r7.2.2)
 ) else (
 Option.bind (
 Option.bind (registry_Registry_Title_b show0 places0 titles0 at0 x_.Serial) fun r13 =>
 some (r13.1.Serial,r13.1.Show,r13.1.Place,r13.1.First,r13.1.Chain)
 ) fun (Serial8,Show9,Place10,First11,Chain12) =>
 Option.bind (law32_transfer_g x_ (Title.mk Serial8 Show9 Place10 First11 Chain12) known) fun v14 =>
 Option.bind (registry_Registry_Pass_b show0 places0 titles0 at0 x_.Serial v14) fun r15 =>
 some (0,r15.1,r15.2.1,r15.2.2)
 )
 )
 )
end Go.SX.Rg
namespace Go.SX.Rg
open Go Go.SX Go.Proofs
set_option maxRecDepth 100000
def c61r0 : List GOp:=[
 gv 3 (.mv (.const (.int .i64 0)))]
def c61r1 : List GOp:=[
 gv 4 (.mv (.tmp 0)),
 gv 5 (.nilck (.tmp 4)),
 gv 6 (.fadd 0 (.tmp 5)),
 gv 7 (.fadd 4 (.tmp 6)),
 gv 8 (.load 1 false (.tmp 7)),
 gv 9 (.len false (.tmp 8)),
 gv 10 (.bin .geq (.tmp 9) (.const (.int .i64 50)))]
def c61r2 : List GOp:=[
 gv 3 (.mv (.const (.int .i64 3)))]
def c61r3 : List GOp:=[
 gv 11 (.fadd 1 (.tmp 1)),
 gv 12 (.load 1 false (.tmp 11)),
 gv 13 (.call 62 [(.tmp 12)]),
 gv 14 (.fadd 1 (.tmp 1)),
 ⟨none,.store 1 (.tmp 14) (.tmp 13),none⟩]
def c61r4 : List GOp:=[
 gv 15 (.mv (.tmp 0)),
 gv 16 (.mv (.tmp 0)),
 gv 17 (.nilck (.tmp 16)),
 gv 18 (.fadd 0 (.tmp 17)),
 gv 19 (.fadd 4 (.tmp 18)),
 gv 20 (.load 1 false (.tmp 19)),
 gv 21 (.call 59 [(.tmp 20)]),
 gv 22 (.load 2 true (.tmp 1)),
 gv 23 (.bslice 46 2 1 (.agg #[(.string ⟨#[]⟩),(.slice none 0 0)]) [(0,(.tmp 22))]),
 gv 24 (.app 46 2 40 (.agg #[(.string ⟨#[]⟩),(.slice none 0 0)]) (.tmp 21) (.tmp 23))]
def c61r4z : List GOp:=[
 gv 25 (.nilck (.tmp 15)),
 gv 26 (.fadd 0 (.tmp 25)),
 gv 27 (.fadd 4 (.tmp 26)),
 ⟨none,.store 1 (.tmp 27) (.tmp 24),none⟩]
def c61r5 : List GOp:=[
 gv 28 (.mv (.tmp 0)),
 gv 29 (.nilck (.tmp 28)),
 gv 30 (.fadd 0 (.tmp 29)),
 gv 31 (.load 5 true (.tmp 30)),
 gv 32 (.call 41 [(.tmp 31)]),
 gv 33 (.un .not (.tmp 32))]
def c61r6 : List GOp:=[
 gv 3 (.mv (.const (.int .i64 20)))]
def c61r7 : List GOp:=[
 gv 3 (.mv (.const (.int .i64 0)))]
def c61 : EFn:=⟨34,.seq (.reg c61r0) (.seq (.seq (.reg c61r1) (.cond (.tmp 10) (.seq (.reg c61r2) (.ret)) (.skip))) (.seq (.reg c61r3) (.seq (.eff false false false [6,9] c61r4 c61r4z) (.seq (.seq (.reg c61r5) (.cond (.tmp 33) (.seq (.reg c61r6) (.ret)) (.skip))) (.seq (.reg c61r7) (.ret)))))),[.tmp 3]⟩
theorem c61_ok : compF Tryz.prog 61=some c61.er:=by kernel_rfl
def c33r0 : List GOp:=[
 gv 5 (.box 46 (.tmp 2)),
 gv 6 (.mv (.const (.int .i64 0)))]
def c33r1 : List GOp:=[
 gv 7 (.mv (.tmp 0)),
 gv 8 (.mv (.tmp 1)),
 gv 9 (.mkfn (.func 61) [] [(.tmp 5)]),
 gv 10 (.call 60 [(.tmp 7),(.tmp 8),(.tmp 9)]),
 gv 6 (.mv (.tmp 10))]
def c33 : EFn:=⟨11,.seq (.reg c33r0) (.seq (.reg c33r1) (.ret)),[.tmp 6]⟩
theorem c33_ok : compF Tryz.prog 33=some c33.er:=by kernel_rfl
set_option maxHeartbeats 8000000 in
theorem registry_Registry_Pass_R {P:Program}(hP:P=Tryz.prog)(show0:Int)(places0:Int)(titles0:(List (Int×Entry)))(at0:(List (Int×Int)))(serial:Int)(t_:Transfer)(r:Int×(List (Int×Entry))×(List (Int×Int)))(h:registry_Registry_Pass_b show0 places0 titles0 at0 serial t_=some r):SCall P 33 [.cells [oi show0,oi places0,.hd 1,.hd 2] 74,.mp (.int .i64) true (WM (Value.int .i64) eEntry titles0),.mp (.int .i64) false (WM (Value.int .i64) eIi64 at0)] [.ptr 0 0,oi serial,.agg [.d (.val (.string t_.To)),.d (.sl (W eS t_.Sig))]] (fun sv own'=>sv=oi r.1∧own'=[.cells [oi show0,oi places0,.hd 1,.hd 2] 74,.mp (.int .i64) true (WM (Value.int .i64) eEntry r.2.1),.mp (.int .i64) false (WM (Value.int .i64) eIi64 r.2.2)]):=by
 refine .walkF 3 rfl (Nat.le_of_ble_eq_true rfl) (hP▸c33_ok) fun K hK=>?_;unfold registry_Registry_Pass_b at h;cbv;refine .inl (hP▸c60_ok) ?_;cbv;refine .oi (e:=eEntry) h (by first | rfl | exact WM_nil' _ _) (fun y1 h=>?_) (fun h=>?_)
 ·cbv;refine brkF io_nt ?_;cbv;refine brkG h ?_ ?_<;>intro h
  ·cbv;obtain rfl:=oj h;refine hK _ _ [] [0,1,2] ?_;(cbv;repeat (refine⟨an_,?_⟩;cbv))
  ·cbv;refine .g h (fun ((Sig2,Chain3,e4):(List ByteArray)×(List Transfer)×Int)=>[.ptr 0 0,oi serial]++rp 5 .top++[.ptr 4 0,.top,oi y1.Title.Place,oi e4]++rp 56 .top) (fun (Sig2,Chain3,e4)=>[.cells [oi show0,oi places0,.hd 1,.hd 2] 74,.mp (.int .i64) true (WM (Value.int .i64) eEntry titles0),.mp (.int .i64) false (WM (Value.int .i64) eIi64 at0),.cells [.d (.val (.string t_.To)),.d (.sl (W eS Sig2))] 46,.cells [oi y1.Title.Serial,oi y1.Title.Show,oi y1.Title.Place,.d (.val (.string y1.Title.First)),.d (.sl (W eTransfer Chain3)),oi y1.gone] 78]) (fun y hm Kn1 hKn1=>?_) fun t h=>?_
   ·have h:=hm;clear hm;cbv;refine .inl (hP▸c61_ok) ?_;cbv;refine brkG h ?_ ?_<;>intro h
    ·cbv;obtain rfl:=oj h;refine hKn1 _ _ _ rfl (.nz (.mtE [0,1,2,3,4] ?_));(cbv;repeat (refine⟨an_,?_⟩;cbv))
    ·cbv;refine .g h (fun v hv=>slices_Clone_2_R hP _ v hv) aw_ rfl (fun _=>rfl) fun v5 h=>?_;cbv;refine .gx [] 5 ?_;cbv;obtain⟨l6,hm,h⟩:=Option.bind_eq_some_iff.1 h;refine .emb [] (slices_CloneW_O hP _ _ hm) (by (cbv;repeat (refine⟨an_,?_⟩;cbv))) ?_;clear hm;cbv;refine⟨.of (by (cbv;repeat (first | exact trivial | refine⟨by first | rfl | trivial,?_⟩))),?_⟩;cbv;refine .g (e:=eTransfer) h (W_cons aw_ (W_nil' _)) fun l7 h=>?_;cbv;refine .g h rfl (fun _=>rfl) (by decide) fun l8 h=>?_;cbv;refine⟨.of (by (cbv;repeat (first | exact trivial | refine⟨by first | rfl | trivial,?_⟩))),?_⟩;cbv;refine .gl [] h (fun v hv=>title_Valid_R hP _ v hv) aw_ rfl fun v9 h=>?_;cbv;refine brkG h ?_ ?_<;>intro h
     ·cbv;obtain rfl:=oj h;refine hKn1 _ _ _ rfl (.frz [.hd 6] (.nz (.mtE [0,1,2,3,4] ?_)));(cbv;repeat (refine⟨an_,?_⟩;cbv))
     ·cbv;obtain rfl:=oj h;refine hKn1 _ _ _ rfl (.frz [.hd 6] (.nz (.mtE [0,1,2,3,4] ?_)));(cbv;repeat (refine⟨an_,?_⟩;cbv))
   obtain⟨Sig2,Chain3,e4⟩:=t;cbv;refine brkG h ?_ ?_<;>intro h
   ·cbv;obtain rfl:=oj h;refine hK _ _ [] [0,1,2] ?_;(cbv;repeat (refine⟨an_,?_⟩;cbv))
   ·cbv;refine .gi (e:=eEntry) h (by first | rfl | exact WM_nil' _ _) aw_ fun m10 h=>?_;cbv;refine .g h (fun (own11:(List (Int×Int)))=>[.ptr 0 0,oi serial]++rp 5 .top++[.ptr 4 0]++rp 59 .top) (fun own11=>[.cells [oi show0,oi places0,.hd 1,.hd 2] 74,.mp (.int .i64) true (WM (Value.int .i64) eEntry m10),.mp (.int .i64) false (WM (Value.int .i64) eIi64 own11),.cells [.d (.val (.string t_.To)),.d (.sl (W eS Sig2))] 46,.cells [oi y1.Title.Serial,oi y1.Title.Show,oi y1.Title.Place,.d (.val (.string y1.Title.First)),.d (.sl (W eTransfer Chain3)),oi y1.gone] 78]) (fun y hm Kn1 hKn1=>?_) fun t h=>?_
    ·have h:=hm;clear hm;cbv;refine brkG h ?_ ?_<;>intro h
     ·cbv;refine .gi (e:=eIi64) h rfl fun m12 h=>?_;cbv;obtain rfl:=oj h;refine hKn1 _ _ _ rfl (.nz (.mtE [0,1,2,3,4] ?_));(cbv;repeat (refine⟨an_,?_⟩;cbv))
     ·cbv;obtain rfl:=oj h;refine hKn1 _ _ _ rfl (.nz (.mtE [0,1,2,3,4] ?_));(cbv;repeat (refine⟨an_,?_⟩;cbv))
    obtain⟨own11,rfl⟩:=ez t;cbv;refine .g h (fun (v13:Bool)=>[.ptr 0 0,oi serial]++rp 5 .top++[.ptr 4 0]++rp 50 .top++[ob v13]++rp 8 .top) (fun v13=>[.cells [oi show0,oi places0,.hd 1,.hd 2] 74,.mp (.int .i64) true (WM (Value.int .i64) eEntry m10),.mp (.int .i64) false (WM (Value.int .i64) eIi64 own11),.cells [.d (.val (.string t_.To)),.d (.sl (W eS Sig2))] 46,.cells [oi y1.Title.Serial,oi y1.Title.Show,oi y1.Title.Place,.d (.val (.string y1.Title.First)),.d (.sl (W eTransfer Chain3)),oi y1.gone] 78]) (fun y hm Kn1 hKn1=>?_) fun t h=>?_
    ·have h:=hm;clear hm;cbv;refine brkG h ?_ ?_<;>intro h
     ·cbv;obtain rfl:=oj h;refine hKn1 _ _ _ rfl (.nz (.mtE [0,1,2,3,4] ?_));(cbv;repeat (refine⟨an_,?_⟩;cbv))
     ·cbv;obtain rfl:=oj h;refine hKn1 _ _ _ rfl (.nz (.mtE [0,1,2,3,4] ?_));(cbv;repeat (refine⟨an_,?_⟩;cbv))
    obtain⟨v13,rfl⟩:=ez t;cbv;refine brkG h ?_ ?_<;>intro h
    ·cbv;refine .gi (e:=eIi64) h (by first | rfl | exact WM_nil' _ _) aw_ fun m14 h=>?_;cbv;obtain rfl:=oj h;refine hK _ _ [] [0,1,2] ?_;(cbv;repeat (refine⟨an_,?_⟩;cbv))
    ·cbv;obtain rfl:=oj h;refine hK _ _ [] [0,1,2] ?_;(cbv;repeat (refine⟨an_,?_⟩;cbv))
 ·cbv;refine brkT io_nf ?_;cbv;obtain rfl:=oj h;refine hK _ _ [] [0,1,2] ?_;(cbv;repeat (refine⟨an_,?_⟩;cbv))
end Go.SX.Rg
namespace Go.SX.Rg
open Go Go.SX Go.Proofs
set_option maxRecDepth 100000
def c16r0 : List GOp:=[
 gv 2 (.mv (.const (.string ⟨#[]⟩)))]
def c16r1 : List GOp:=[
 gv 3 (.mv (.tmp 0)),
 gv 4 (.call 47 [(.tmp 3)]),
 gv 5 (.div .add (.const (.string ⟨#[102,105,114,115,116,32]⟩)) (.tmp 4)),
 gv 6 (.call 31 [(.tmp 5)]),
 gv 7 (.call 30 [(.tmp 6)]),
 gv 2 (.mv (.tmp 7))]
def c16 : EFn:=⟨8,.seq (.reg c16r0) (.seq (.reg c16r1) (.ret)),[.tmp 2]⟩
theorem c16_ok : compF Tryz.prog 16=some c16.er:=by kernel_rfl
def c15r0 : List GOp:=[
 gv 4 (.box 32 (.tmp 1)),
 gv 6 (.mv (.const (.int .i64 0))),
 gv 7 (.mv (.const (.int .i64 0)))]
def c15r1 : List GOp:=[
 gv 12 (.fadd 0 (.tmp 4)),
 gv 13 (.load 1 false (.tmp 12))]
def c15r2 : List GOp:=[
 gv 15 (.bin .eql (.tmp 13) (.const (.int .i64 0))),
 gv 14 (.mv (.tmp 15))]
def c15r3 : List GOp:=[
 gv 16 (.fadd 3 (.tmp 4)),
 gv 17 (.load 1 false (.tmp 16)),
 gv 8 (.mv (.tmp 17))]
def c15r4 : List GOp:=[
 gv 18 (.mv (.tmp 8)),
 gv 19 (.bin .eql (.tmp 18) (.const (.string ⟨#[]⟩)))]
def c15r5 : List GOp:=[
 gv 20 (.fadd 2 (.tmp 4)),
 gv 21 (.load 1 false (.tmp 20)),
 gv 22 (.call 16 [(.tmp 21)]),
 gv 8 (.mv (.tmp 22))]
def c15r6 : List GOp:=[
 gv 23 (.mv (.tmp 0)),
 gv 24 (.fadd 2 (.tmp 4)),
 gv 25 (.load 1 false (.tmp 24)),
 gv 26 (.mv (.tmp 8)),
 gv 27 (.call 43 [(.tmp 23),(.tmp 25),(.tmp 26)]),
 gv 28 (.ext (.tmp 27) 0),
 gv 29 (.ext (.tmp 27) 1),
 gv 6 (.mv (.tmp 28)),
 gv 7 (.mv (.tmp 29))]
def c15r7 : List GOp:=[
 gv 31 (.bin .eql (.tmp 13) (.const (.int .i64 2))),
 gv 30 (.mv (.tmp 31))]
def c15r8 : List GOp:=[
 gv 32 (.mv (.tmp 0)),
 gv 33 (.fadd 1 (.tmp 4)),
 gv 34 (.load 1 false (.tmp 33)),
 gv 35 (.fadd 2 (.tmp 4)),
 gv 36 (.load 1 false (.tmp 35)),
 gv 37 (.call 45 [(.tmp 32),(.tmp 34),(.tmp 36)]),
 gv 6 (.mv (.const (.int .i64 0))),
 gv 7 (.mv (.tmp 37))]
def c15r9 : List GOp:=[
 gv 39 (.bin .eql (.tmp 13) (.const (.int .i64 3))),
 gv 38 (.mv (.tmp 39))]
def c15r10 : List GOp:=[
 gv 40 (.mv (.tmp 0)),
 gv 41 (.fadd 1 (.tmp 4)),
 gv 42 (.load 1 false (.tmp 41)),
 gv 43 (.fadd 2 (.tmp 4)),
 gv 44 (.load 1 false (.tmp 43)),
 gv 45 (.call 38 [(.tmp 40),(.tmp 42),(.tmp 44)]),
 gv 6 (.mv (.const (.int .i64 0))),
 gv 7 (.mv (.tmp 45))]
def c15r11 : List GOp:=[
 gv 47 (.mv (.tmp 0)),
 gv 48 (.fadd 1 (.tmp 4)),
 gv 49 (.load 1 false (.tmp 48)),
 gv 50 (.call 14 [(.tmp 47),(.tmp 49)]),
 gv 46 (.mv (.tmp 50)),
 gv 51 (.ext (.tmp 46) 0),
 gv 52 (.ext (.tmp 46) 1),
 gv 53 (.ext (.tmp 46) 2),
 gv 9 (.alloc 35 (.agg #[oz,oz,oz,(.string ⟨#[]⟩),(.slice none 0 0)])),
 ⟨none,.store 5 (.tmp 9) (.tmp 51),none⟩,
 gv 10 (.mv (.tmp 52)),
 gv 11 (.mv (.tmp 53))]
def c15r12 : List GOp:=[
 gv 54 (.mv (.tmp 0)),
 gv 55 (.fadd 1 (.tmp 4)),
 gv 56 (.load 1 false (.tmp 55)),
 gv 57 (.load 5 true (.tmp 4)),
 gv 58 (.load 5 true (.tmp 9)),
 gv 59 (.mv (.tmp 2)),
 gv 60 (.call 21 [(.tmp 57),(.tmp 58),(.tmp 59)])]
def c15r12z : List GOp:=[
 gv 61 (.call 33 [(.tmp 54),(.tmp 56),(.tmp 60)]),
 gv 6 (.mv (.const (.int .i64 0))),
 gv 7 (.mv (.tmp 61))]
def c15 : EFn:=⟨62,.seq (.reg c15r0) (.seq (.seq (.reg c15r1) (.block 0 (.seq (.reg c15r2) (.cond (.tmp 14) (.seq (.reg c15r3) (.join (.seq (.reg c15r4) (.cond (.tmp 19) (.reg c15r5) (.skip))) (.seq (.reg c15r6) (.ret)))) (.seq (.reg c15r7) (.cond (.tmp 30) (.seq (.reg c15r8) (.ret)) (.seq (.reg c15r9) (.cond (.tmp 38) (.seq (.reg c15r10) (.ret)) (.skip))))))))) (.join (.reg c15r11) (.seq (.sfx false false false true c15r12 c15r12z) (.ret)))),[.tmp 6,.tmp 7]⟩
theorem c15_ok : compF Tryz.prog 15=some c15.er:=by kernel_rfl
set_option maxHeartbeats 8000000 in
theorem law32_do_R {P:Program}(hP:P=Tryz.prog)(show0:Int)(places0:Int)(titles0:(List (Int×Entry)))(at0:(List (Int×Int)))(x_:Op)(known:(List ByteArray))(r:Int×Int×(List (Int×Entry))×(List (Int×Int)))(h:law32_do_b show0 places0 titles0 at0 x_ known=some r):SCall P 15 [.cells [oi show0,oi places0,.hd 1,.hd 2] 74,.mp (.int .i64) true (WM (Value.int .i64) eEntry titles0),.mp (.int .i64) false (WM (Value.int .i64) eIi64 at0)] [.ptr 0 0,.agg [oi x_.Kind,oi x_.Serial,oi x_.At,.d (.val (.string x_.Key)),.d (.sl (W eS x_.Sig))],.d (.sl (W eS known))] (fun sv own'=>sv=.tup [oi r.1,oi r.2.1]∧own'=[.cells [oi show0,oi places0,.hd 1,.hd 2] 74,.mp (.int .i64) true (WM (Value.int .i64) eEntry r.2.2.1),.mp (.int .i64) false (WM (Value.int .i64) eIi64 r.2.2.2)]):=by
 refine .walkF 3 rfl (Nat.le_of_ble_eq_true rfl) (hP▸c15_ok) fun K hK=>?_;unfold law32_do_b at h;cbv;refine brkG h ?_ ?_<;>intro h
 ·cbv;refine .g h (fun (key1:ByteArray)=>[.ptr 0 0]++rp 3 .top++[.ptr 3 0]++rp 3 .top++[.d (.val (.string key1))]++rp 53 .top) (fun key1=>[.cells [oi show0,oi places0,.hd 1,.hd 2] 74,.mp (.int .i64) true (WM (Value.int .i64) eEntry titles0),.mp (.int .i64) false (WM (Value.int .i64) eIi64 at0),.cells [oi x_.Kind,oi x_.Serial,oi x_.At,.d (.val (.string x_.Key)),.d (.sl (W eS x_.Sig))] 32]) (fun y hm Kn1 hKn1=>?_) fun t h=>?_
  ·have h:=hm;clear hm;cbv;refine brkG h ?_ ?_<;>intro h
   ·cbv;refine .inl (hP▸c16_ok) ?_;cbv;refine .g h (fun v hv=>ref02_Decimal_R hP _ v hv) aw_ rfl (fun _=>rfl) fun v2 h=>?_;cbv;refine .g h fun h=>?_;cbv;refine .g h (fun v hv=>law32_secret_R hP _ v hv) aw_ rfl (fun _=>rfl) fun v3 h=>?_;cbv;refine .g h (fun v hv=>sign_Public_R hP _ v hv) aw_ rfl (fun _=>rfl) fun known4 h=>?_;cbv;obtain rfl:=oj h;refine hKn1 _ _ _ rfl (.nz (.mtE [0,1,2,3] ?_));(cbv;repeat (refine⟨an_,?_⟩;cbv))
   ·cbv;obtain rfl:=oj h;refine hKn1 _ _ _ rfl (.nz (.mtE [0,1,2,3] ?_));(cbv;repeat (refine⟨an_,?_⟩;cbv))
  obtain⟨key1,rfl⟩:=ez t;cbv;obtain⟨r5,hm,h⟩:=Option.bind_eq_some_iff.1 h;refine .embL [0,1,2] (registry_Registry_Issue_R hP _ _ _ _ _ _ _ hm) (by (cbv;repeat (refine⟨an_,?_⟩;cbv))) fun sv0 own0 hq _=>?_;obtain⟨rfl,rfl⟩:=hq;clear hm;cbv;obtain rfl:=oj h;refine hK _ _ [] [0,1,2] ?_;(cbv;repeat (refine⟨an_,?_⟩;cbv))
 ·cbv;refine brkG h ?_ ?_<;>intro h
  ·cbv;obtain⟨r6,hm,h⟩:=Option.bind_eq_some_iff.1 h;refine .embL [0,1,2] (registry_Registry_Revoke_R hP _ _ _ _ _ _ _ hm) (by (cbv;repeat (refine⟨an_,?_⟩;cbv))) fun sv0 own0 hq _=>?_;obtain⟨rfl,rfl⟩:=hq;clear hm;cbv;obtain rfl:=oj h;refine hK _ _ [] [0,1,2] ?_;(cbv;repeat (refine⟨an_,?_⟩;cbv))
  ·cbv;refine brkG h ?_ ?_<;>intro h
   ·cbv;obtain⟨r7,hm,h⟩:=Option.bind_eq_some_iff.1 h;refine .embL [0,1,2] (registry_Registry_Move_R hP _ _ _ _ _ _ _ hm) (by (cbv;repeat (refine⟨an_,?_⟩;cbv))) fun sv0 own0 hq _=>?_;obtain⟨rfl,rfl⟩:=hq;clear hm;cbv;obtain rfl:=oj h;refine hK _ _ [] [0,1,2] ?_;(cbv;repeat (refine⟨an_,?_⟩;cbv))
   ·cbv;refine .g h (fun ((Serial8,Show9,Place10,First11,Chain12):Int×Int×Int×ByteArray×(List Transfer))=>[.ptr 0 0,.top,.d (.sl (W eS known)),.top,.ptr 3 0]++rp 4 .top++[.ptr 4 0]++rp 52 .top) (fun (Serial8,Show9,Place10,First11,Chain12)=>[.cells [oi show0,oi places0,.hd 1,.hd 2] 74,.mp (.int .i64) true (WM (Value.int .i64) eEntry titles0),.mp (.int .i64) false (WM (Value.int .i64) eIi64 at0),.cells [oi x_.Kind,oi x_.Serial,oi x_.At,.d (.val (.string x_.Key)),.d (.sl (W eS x_.Sig))] 32,.cells [oi Serial8,oi Show9,oi Place10,.d (.val (.string First11)),.d (.sl (W eTransfer Chain12))] 35]) (fun y hm Kn1 hKn1=>?_) fun t h=>?_
    ·have h:=hm;clear hm;cbv;obtain⟨r13,hm,h⟩:=Option.bind_eq_some_iff.1 h;refine .embL [0,1,2] (registry_Registry_Title_R hP _ _ _ _ _ _ hm) (by (cbv;repeat (refine⟨an_,?_⟩;cbv))) fun sv0 own0 hq _=>?_;obtain⟨rfl,rfl⟩:=hq;clear hm;cbv;obtain rfl:=oj h;refine hKn1 _ _ _ rfl (.nz (.mtE [0,1,2,3,4] ?_));(cbv;repeat (refine⟨an_,?_⟩;cbv))
    obtain⟨Serial8,Show9,Place10,First11,Chain12⟩:=t;cbv;refine .g h (fun v hv=>law32_transfer_R hP _ _ _ v hv) aw_ rfl (fun _=>rfl) fun v14 h=>?_;cbv;obtain⟨r15,hm,h⟩:=Option.bind_eq_some_iff.1 h;refine .embL [0,1,2] (registry_Registry_Pass_R hP _ _ _ _ _ _ _ hm) (by (cbv;repeat (refine⟨an_,?_⟩;cbv))) fun sv0 own0 hq _=>?_;obtain⟨rfl,rfl⟩:=hq;clear hm;cbv;obtain rfl:=oj h;refine hK _ _ [] [0,1,2] ?_;(cbv;repeat (refine⟨an_,?_⟩;cbv))
end Go.SX.Rg
namespace Go.SX.Rg
open Go Go.SX Go.Proofs
set_option maxRecDepth 100000
noncomputable def title_Pass_g (t_:Title)(to:ByteArray)(secret:ByteArray):Option (Title×Int) :=
 Option.bind (
 Option.bind (title_Valid_g t_) fun v2 =>
 bif (io.not v2) then (
 some true
 ) else (
 Option.bind (digest_Is_g to) fun v3 =>
 some (io.not v3)
 )
 ) fun v1 =>
 bif v1 then (
 some ((Title.mk 0 0 0 (⟨#[]⟩) []),1)
 ) else (
 bif (io.eq (io.len (W eTransfer t_.Chain)) 50) then (
 some ((Title.mk 0 0 0 (⟨#[]⟩) []),3)
 ) else (
 Option.bind (title_used_g t_ to) fun v4 =>
 bif v4 then (
 some ((Title.mk 0 0 0 (⟨#[]⟩) []),9)
 ) else (
 Option.bind (sign_Public_g secret) fun v5 =>
 Option.bind (title_Owner_g t_) fun v6 =>
 bif (io.not (io.seq v5 v6)) then (
 some ((Title.mk 0 0 0 (⟨#[]⟩) []),20)
 ) else (
 Option.bind (slices_CloneW_g t_.Chain) fun l7 =>
 Option.bind (title_Message_g t_ to) fun v8 =>
 Option.bind (sign_Sign_g secret v8) fun v9 =>
 Option.bind (some [(Transfer.mk to v9)]) fun l10 =>
 Option.bind (appG l7 l10) fun l11 =>
 some ((Title.mk t_.Serial t_.Show t_.Place t_.First l11),0)
 )
 )
 )
 )
end Go.SX.Rg
namespace Go.SX.Rg
open Go Go.SX Go.Proofs
set_option maxRecDepth 100000
noncomputable def law32_head_g : Option (Bool) :=
 optN (registry_New_b 2 5) (
 Option.bind (sign_Public_g (⟨#[107]⟩)) fun k1 =>
 Option.bind (
 Option.bind (registry_Registry_Issue_b 2 5 ([]:(List (Int×Entry))) ([]:(List (Int×Int))) 3 k1) fun r6 =>
 some (r6.2.2.1,r6.2.2.2,r6.1,r6.2.1)
 ) fun (titles2,at3,a4,e5) =>
 Option.bind (
 Option.bind (digest_Sum_g (⟨#[108]⟩)) fun v10 =>
 Option.bind (registry_Registry_Issue_b 2 5 titles2 at3 3 v10) fun r11 =>
 some (r11.2.2.1,r11.2.2.2,r11.2.1)
 ) fun (titles7,at8,f9) =>
 Option.bind (
 Option.bind (registry_Registry_At_b 2 5 titles7 at8 3) fun r13 =>
 some r13
 ) fun at12 =>
 Option.bind (
 Option.bind (registry_Registry_Move_b 2 5 titles7 at8 30001 4) fun r17 =>
 some (r17.2.1,r17.2.2,r17.1)
 ) fun (titles14,at15,g16) =>
 Option.bind (
 Option.bind (digest_Sum_g (⟨#[108]⟩)) fun v22 =>
 Option.bind (registry_Registry_Issue_b 2 5 titles14 at15 3 v22) fun r23 =>
 some (r23.2.2.1,r23.2.2.2,r23.1,r23.2.1)
 ) fun (titles18,at19,b20,h21) =>
 Option.bind (
 Option.bind (registry_Registry_Title_b 2 5 titles18 at19 30001) fun r30 =>
 some (r30.1.Serial,r30.1.Show,r30.1.Place,r30.1.First,r30.1.Chain,r30.2.2)
 ) fun (Serial24,Show25,Place26,First27,Chain28,i29) =>
 Option.bind (digest_Sum_g (⟨#[109]⟩)) fun v31 =>
 Option.bind (title_Pass_g (Title.mk Serial24 Show25 Place26 First27 Chain28) v31 (⟨#[107]⟩)) fun v32 =>
 Option.bind (
 bif (io.not (io.eq v32.2 0)) then (
 some true
 ) else (
 some (io.not (io.eq (io.len (W eTransfer v32.1.Chain)) 1))
 )
 ) fun v33 =>
 bif v33 then (
 some false
 ) else (
 Option.bind (
 Option.bind (idxG v32.1.Chain 0) fun x37 =>
 Option.bind (registry_Registry_Pass_b 2 5 titles18 at19 30001 x37) fun r38 =>
 some (r38.2.1,r38.2.2,r38.1)
 ) fun (titles34,at35,l36) =>
 Option.bind (
 Option.bind (idxG v32.1.Chain 0) fun x42 =>
 Option.bind (registry_Registry_Pass_b 2 5 titles34 at35 30001 x42) fun r43 =>
 some (r43.2.1,r43.2.2,r43.1)
 ) fun (titles39,at40,m41) =>
 Option.bind (
 Option.bind (registry_Registry_Revoke_b 2 5 titles39 at40 30001 100) fun r47 =>
 some (r47.2.1,r47.2.2,r47.1)
 ) fun (titles44,at45,n46) =>
 Option.bind (
 Option.bind (registry_Registry_Revoke_b 2 5 titles44 at45 30001 101) fun r51 =>
 some (r51.2.1,r51.2.2,r51.1)
 ) fun (titles48,at49,o50) =>
 Option.bind (
 Option.bind (digest_Sum_g (⟨#[109]⟩)) fun v56 =>
 Option.bind (registry_Registry_Issue_b 2 5 titles48 at49 4 v56) fun r57 =>
 some (r57.2.2.1,r57.2.2.2,r57.1,r57.2.1)
 ) fun (titles52,at53,c54,p55) =>
 Option.bind (
 Option.bind (registry_Registry_Title_b 2 5 titles52 at53 30001) fun r65 =>
 some (r65.1.Serial,r65.1.Show,r65.1.Place,r65.1.First,r65.1.Chain,r65.2.1,r65.2.2)
 ) fun (Serial58,Show59,Place60,First61,Chain62,gone63,q64) =>
 Option.bind (
 bif (io.eq e5 0) then (
 bif (io.eq a4 30001) then (
 bif (io.eq f9 16) then (
 bif (io.eq at12 30001) then (
 bif (io.eq g16 0) then (
 bif (io.eq h21 0) then (
 bif (io.eq b20 30002) then (
 bif (io.eq i29 0) then (
 bif (io.eq Place26 4) then (
 bif (io.eq l36 0) then (
 bif (io.eq m41 20) then (
 bif (io.eq n46 0) then (
 some (io.eq o50 27)
 ) else (
 some false
 )
 ) else (
 some false
 )
 ) else (
 some false
 )
 ) else (
 some false
 )
 ) else (
 some false
 )
 ) else (
 some false
 )
 ) else (
 some false
 )
 ) else (
 some false
 )
 ) else (
 some false
 )
 ) else (
 some false
 )
 ) else (
 some false
 )
 ) else (
 some false
 )
 ) fun one66 =>
 bif one66 then (
 bif (io.eq p55 0) then (
 bif (io.eq c54 30003) then (
 bif (io.eq q64 0) then (
 bif (io.eq gone63 100) then (
 Option.bind (title_Owner_g (Title.mk Serial58 Show59 Place60 First61 Chain62)) fun v67 =>
 Option.bind (digest_Sum_g (⟨#[109]⟩)) fun v68 =>
 bif (io.seq v67 v68) then (
 Option.bind (registry_Registry_Revoked_b 2 5 titles52 at53) fun r69 =>
 Option.bind (some [30001]) fun l70 =>
 Option.bind (ref11_Ints_g r69 l70) fun v71 =>
 bif v71 then (
 optN (registry_New_b 20 1) none (
 Option.bind (registry_Registry_Revoke_nil_g 1 1) fun v72 =>
 some (io.eq v72 1)
 )
 ) else (
 some false
 )
 ) else (
 some false
 )
 ) else (
 some false
 )
 ) else (
 some false
 )
 ) else (
 some false
 )
 ) else (
 some false
 )
 ) else (
 some false
 )
 )
 ) none
end Go.SX.Rg
namespace Go.SX.Rg
open Go Go.SX Go.Proofs
set_option maxRecDepth 100000
noncomputable def law32_RegistryChains_l48 (ix8:Int)(show_:Int)(titles13:(List (Int×Entry)))(at14:(List (Int×Int))):((List Title)×(List Int)×Int)→Option (((List Title)×(List Int)×Int) ⊕ ((List Title)×(List Int)))
 | (now19,since20,k21) =>
 bif (io.le k21 (io.ar .add .i64 ix8 1)) then (
 Option.bind (
 Option.bind (registry_Registry_Title_b (io.rem (io.wrap .i64 show_) 20) 8 titles13 at14 (io.ar .add .i64 (io.ar .mul .i64 (io.ar .add .i64 (io.rem (io.wrap .i64 show_) 20) 1) 10000) k21)) fun r29 =>
 some (r29.1.Serial,r29.1.Show,r29.1.Place,r29.1.First,r29.1.Chain,r29.2.1,r29.2.2)
 ) fun (Serial22,Show23,Place24,First25,Chain26,g27,e28) =>
 bif (io.not (io.eq e28 0)) then (
 some (.inr (now19,since20))
 ) else (
 Option.bind (some [(Title.mk Serial22 Show23 Place24 First25 Chain26)]) fun l30 =>
 Option.bind (appG now19 l30) fun now31 =>
 Option.bind (some [g27]) fun l32 =>
 Option.bind (appG since20 l32) fun since33 =>
 some (.inl (now31,since33,(io.ar .add .i64 k21 1)))
 )
 ) else (
 some (.inr (now19,since20))
 )
noncomputable def law32_RegistryChains_l50 (now17:(List Title))(old6:(List Title))(gone7:(List Int))(since18:(List Int)):Int→Option ((Int) ⊕ ((Unit) ⊕ (((List (Int×Entry))×(List (Int×Int))×(List Title)×(List Int)) ⊕ (((List (Int×Entry))×(List (Int×Int))×(List Title)×(List Int)×Int) ⊕ ((Unit) ⊕ (Bool))))))
 | k34 =>
 bif (io.lt k34 (io.len (W eTitle now17))) then (
 Option.bind (
 Option.bind (rixG now17 k34) fun i36 =>
 Option.bind (now17[i36]?) fun v37 =>
 Option.bind (title_Valid_g v37) fun v38 =>
 bif (io.not v38) then (
 some true
 ) else (
 bif (io.lt k34 (io.len (W eTitle old6))) then (
 Option.bind (rixG now17 k34) fun i39 =>
 Option.bind (now17[i39]?) fun v40 =>
 Option.bind (rixG old6 k34) fun i41 =>
 Option.bind (old6[i41]?) fun v42 =>
 Option.bind (title_Extends_g v40 v42) fun v43 =>
 bif (io.not v43) then (
 some true
 ) else (
 Option.bind (rixG now17 k34) fun i44 =>
 Option.bind (now17[i44]?) fun v45 =>
 Option.bind (rixG old6 k34) fun i46 =>
 Option.bind (old6[i46]?) fun v47 =>
 bif (io.lt (io.ar .add .i64 (io.len (W eTransfer v47.Chain)) 1) (io.len (W eTransfer v45.Chain))) then (
 some true
 ) else (
 Option.bind (rixG gone7 k34) fun i48 =>
 Option.bind (gone7[i48]?) fun v49 =>
 bif (io.lt 0 v49) then (
 Option.bind (rixG since18 k34) fun i50 =>
 Option.bind (since18[i50]?) fun v51 =>
 Option.bind (rixG gone7 k34) fun i52 =>
 Option.bind (gone7[i52]?) fun v53 =>
 bif (io.not (io.eq v51 v53)) then (
 some true
 ) else (
 Option.bind (rixG now17 k34) fun i54 =>
 Option.bind (now17[i54]?) fun v55 =>
 Option.bind (rixG old6 k34) fun i56 =>
 Option.bind (old6[i56]?) fun v57 =>
 Option.bind (ref30_Same_g v55 v57) fun v58 =>
 some (io.not v58)
 )
 ) else (
 some false
 )
 )
 )
 ) else (
 some false
 )
 )
 ) fun v35 =>
 bif v35 then (
 some (.inr (.inr (.inr (.inr (.inr false)))))
 ) else (
 some (.inl (io.ar .add .i64 k34 1))
 )
 ) else (
 some (.inr (.inl ()))
 )
noncomputable def law32_RegistryChains_l42 (l:(List Op))(show_:Int)(known3:(List ByteArray)):((List (Int×Entry))×(List (Int×Int))×(List Title)×(List Int)×Int)→Option (((List (Int×Entry))×(List (Int×Int))×(List Title)×(List Int)×Int) ⊕ ((Unit) ⊕ (Bool)))
 | (titles4,at5,old6,gone7,ix8) =>
 bif (io.lt ix8 (io.len (W eOp l))) then (
 orR (
 Option.bind (
 Option.bind (idxG l ix8) fun x15 =>
 Option.bind (law32_do_b (io.rem (io.wrap .i64 show_) 20) 8 titles4 at5 x15 known3) fun r16 =>
 some (r16.2.2.1,r16.2.2.2)
 ) fun (titles13,at14) =>
 Option.bind (
 whileG (law32_RegistryChains_l48 ix8 show_ titles13 at14) ([],[],1)
 ) fun (now17,since18) =>
 bif (io.lt (io.len (W eTitle now17)) (io.len (W eTitle old6))) then (
 some (.inr (.inr (.inr false)))
 ) else (
 orR (
 whileG (law32_RegistryChains_l50 now17 old6 gone7 since18) 0
 ) fun _ =>
 some (.inl (titles13,at14,now17,since18))
 )
 ) fun (titles9,at10,old11,gone12) =>
 some (.inl (titles9,at10,old11,gone12,(io.ar .add .i64 ix8 1)))
 ) else (
 some (.inr (.inl ()))
 )
noncomputable def law32_RegistryChains_g (show_:Int)(l:(List Op)):Option (Bool) :=
 Option.bind (law32_head_g) fun up1 =>
 Option.bind (law32_few_g l) fun v2 =>
 bif (io.not v2) then (
 some up1
 ) else (
 Option.bind (divG 20) fun _ =>
 optN (registry_New_b (io.rem (io.wrap .i64 show_) 20) 8) (
 Option.bind (law32_secrets_g l) fun known3 =>
 orR (
 whileG (law32_RegistryChains_l42 l show_ known3) ([],[],[],[],0)
 ) fun _ =>
 some up1
 ) none
 )
end Go.SX.Rg
namespace Go.SX.Rg
open Go Go.SX Go.Proofs
set_option maxRecDepth 100000
def c32r0 : List GOp:=[
 gv 3 (.box 35 (.tmp 0)),
 gv 6 (.alloc 35 (.agg #[oz,oz,oz,(.string ⟨#[]⟩),(.slice none 0 0)])),
 gv 7 (.mv (.const (.int .i64 0)))]
def c32r1 : List GOp:=[
 gv 9 (.load 5 true (.tmp 3)),
 gv 10 (.call 41 [(.tmp 9)]),
 gv 11 (.un .not (.tmp 10)),
 gv 12 (.mv (.tmp 11)),
 gw 13 12 false (.mv (.tmp 1)),
 gw 14 12 false (.call 57 [(.tmp 13)]),
 gw 15 12 false (.un .not (.tmp 14)),
 gv 16 (.pick (.tmp 12) (.const (.bool true)) (.tmp 15)),
 gv 8 (.mv (.tmp 16))]
def c32r2 : List GOp:=[
 gv 17 (.build (.agg #[oz,oz,oz,(.string ⟨#[]⟩),(.slice none 0 0)]) []),
 ⟨none,.store 5 (.tmp 6) (.tmp 17),none⟩,
 gv 7 (.mv (.const (.int .i64 1)))]
def c32r3 : List GOp:=[
 gv 19 (.fadd 4 (.tmp 3)),
 gv 20 (.load 1 false (.tmp 19)),
 gv 21 (.len false (.tmp 20)),
 gv 22 (.bin .eql (.tmp 21) (.const (.int .i64 50))),
 gv 18 (.mv (.tmp 22))]
def c32r4 : List GOp:=[
 gv 23 (.build (.agg #[oz,oz,oz,(.string ⟨#[]⟩),(.slice none 0 0)]) []),
 ⟨none,.store 5 (.tmp 6) (.tmp 23),none⟩,
 gv 7 (.mv (.const (.int .i64 3)))]
def c32r5 : List GOp:=[
 gv 25 (.load 5 true (.tmp 3)),
 gv 26 (.mv (.tmp 1)),
 gv 27 (.call 58 [(.tmp 25),(.tmp 26)]),
 gv 24 (.mv (.tmp 27))]
def c32r6 : List GOp:=[
 gv 28 (.build (.agg #[oz,oz,oz,(.string ⟨#[]⟩),(.slice none 0 0)]) []),
 ⟨none,.store 5 (.tmp 6) (.tmp 28),none⟩,
 gv 7 (.mv (.const (.int .i64 9)))]
def c32r7 : List GOp:=[
 gv 30 (.mv (.tmp 2)),
 gv 31 (.call 30 [(.tmp 30)]),
 gv 32 (.load 5 true (.tmp 3)),
 gv 33 (.call 35 [(.tmp 32)]),
 gv 34 (.bin .neq (.tmp 31) (.tmp 33)),
 gv 29 (.mv (.tmp 34))]
def c32r8 : List GOp:=[
 gv 35 (.build (.agg #[oz,oz,oz,(.string ⟨#[]⟩),(.slice none 0 0)]) []),
 ⟨none,.store 5 (.tmp 6) (.tmp 35),none⟩,
 gv 7 (.mv (.const (.int .i64 20)))]
def c32r9 : List GOp:=[
 gv 36 (.fadd 4 (.tmp 3)),
 gv 37 (.load 1 false (.tmp 36)),
 gv 38 (.call 59 [(.tmp 37)]),
 gv 39 (.mv (.tmp 1)),
 gv 40 (.mv (.tmp 2)),
 gv 41 (.load 5 true (.tmp 3)),
 gv 42 (.mv (.tmp 1)),
 gv 43 (.call 36 [(.tmp 41),(.tmp 42)]),
 gv 44 (.call 37 [(.tmp 40),(.tmp 43)])]
def c32r9z : List GOp:=[
 gv 45 (.build (.agg #[(.string ⟨#[]⟩),(.slice none 0 0)]) [((0,1),(.tmp 39)),((1,1),(.tmp 44))]),
 gv 46 (.bslice 46 2 1 (.agg #[(.string ⟨#[]⟩),(.slice none 0 0)]) [(0,(.tmp 45))]),
 gv 47 (.app 46 2 40 (.agg #[(.string ⟨#[]⟩),(.slice none 0 0)]) (.tmp 38) (.tmp 46)),
 gv 48 (.fadd 4 (.tmp 3)),
 ⟨none,.store 1 (.tmp 48) (.tmp 47),none⟩]
def c32r10 : List GOp:=[
 gv 49 (.load 5 true (.tmp 3)),
 ⟨none,.store 5 (.tmp 6) (.tmp 49),none⟩,
 gv 7 (.mv (.const (.int .i64 0)))]
def c32 : EFn:=⟨50,.seq (.reg c32r0) (.seq (.block 0 (.join (.reg c32r1) (.cond (.tmp 8) (.seq (.reg c32r2) (.ret)) (.seq (.reg c32r3) (.cond (.tmp 18) (.seq (.reg c32r4) (.ret)) (.seq (.reg c32r5) (.cond (.tmp 24) (.seq (.reg c32r6) (.ret)) (.seq (.par false false false true 3 c32r7) (.cond (.tmp 29) (.seq (.reg c32r8) (.ret)) (.skip)))))))))) (.seq (.eff false false false [2] c32r9 c32r9z) (.seq (.reg c32r10) (.ret)))),[.cell 6 5 true,.tmp 7]⟩
theorem c32_ok : compF Tryz.prog 32=some c32.er:=by kernel_rfl
set_option maxHeartbeats 4000000 in
theorem title_Pass_R {P:Program}(hP:P=Tryz.prog)(t_:Title)(to:ByteArray)(secret:ByteArray)(r:Title×Int)(h:title_Pass_g t_ to secret=some r):Fn1 P 32 [vTitle t_,vS to,vS secret] (.tup [vTitle r.1,vIi64 r.2]):=by
 refine .walkE2 (hP▸c32_ok) fun K hK=>?_;unfold title_Pass_g at h;cbv;refine .g h (fun (v1:Bool)=>[.top,.d (.val (.string to)),.d (.val (.string secret)),.ptr 0 0,.top,.top,.ptr 1 0,.top,ob v1]++rp 41 .top) (fun v1=>[.cells [oi t_.Serial,oi t_.Show,oi t_.Place,.d (.val (.string t_.First)),.d (.sl (W eTransfer t_.Chain))] 35,.cells [oi 0,oi 0,oi 0,.d (.val (.string (⟨#[]⟩))),.d (.val (.slice none 0 0))] 35]) (fun y hm Kn1 hKn1=>?_) fun t h=>?_
 ·have h:=hm;clear hm;cbv;refine .g h (fun v hv=>title_Valid_R hP _ v hv) aw_ rfl (fun _=>rfl) fun v2 h=>?_;cbv;refine brkG h ?_ ?_<;>intro h
  ·cbv;obtain rfl:=oj h;refine hKn1 _ _ _ rfl (.nz (.mtE [0,1] ?_));(cbv;repeat (refine⟨an_,?_⟩;cbv))
  ·cbv;refine .g h (fun v hv=>digest_Is_R hP _ v hv) aw_ rfl (fun _=>rfl) fun v3 h=>?_;cbv;obtain rfl:=oj h;refine hKn1 _ _ _ rfl (.nz (.mtE [0,1] ?_));(cbv;repeat (refine⟨an_,?_⟩;cbv))
 obtain⟨v1,rfl⟩:=ez t;cbv;refine brkG h ?_ ?_<;>intro h
 ·cbv;obtain rfl:=oj h;exact hK _ _ aw_
 ·cbv;refine brkG h ?_ ?_<;>intro h
  ·cbv;obtain rfl:=oj h;exact hK _ _ aw_
  ·cbv;refine .g h (fun v hv=>title_used_R hP _ _ v hv) aw_ rfl (fun _=>rfl) fun v4 h=>?_;cbv;refine brkG h ?_ ?_<;>intro h
   ·cbv;obtain rfl:=oj h;exact hK _ _ aw_
   ·cbv;refine .g h (fun v hv=>sign_Public_R hP _ v hv) aw_ rfl (fun _=>rfl) fun v5 h=>?_;cbv;refine .g h (fun v hv=>title_Owner_R hP _ v hv) aw_ rfl (fun _=>rfl) fun v6 h=>?_;cbv;refine brkG h ?_ ?_<;>intro h
    ·cbv;obtain rfl:=oj h;exact hK _ _ aw_
    ·cbv;refine .gx [] 2 ?_;cbv;obtain⟨l7,hm,h⟩:=Option.bind_eq_some_iff.1 h;refine .emb [] (slices_CloneW_O hP _ _ hm) (by (cbv;repeat (refine⟨an_,?_⟩;cbv))) ?_;clear hm;cbv;refine⟨.of (by (cbv;repeat (first | exact trivial | refine⟨by first | rfl | trivial,?_⟩))),?_⟩;cbv;refine .g h (fun v hv=>title_Message_R hP _ _ v hv) aw_ rfl (fun _=>rfl) fun v8 h=>?_;cbv;refine .g h (fun v hv=>sign_Sign_R hP _ _ v hv) aw_ rfl (fun _=>rfl) fun v9 h=>?_;cbv;refine .g (e:=eTransfer) h (W_cons aw_ (W_nil' _)) fun l10 h=>?_;cbv;refine .g h rfl (fun _=>rfl) (by decide) fun l11 h=>?_;cbv;obtain rfl:=oj h;exact hK _ _ aw_
end Go.SX.Rg
namespace Go.SX.Rg
open Go Go.SX Go.Proofs
set_option maxRecDepth 100000
end Go.SX.Rg
namespace Go.SX.Rg
open Go Go.SX Go.Proofs
set_option maxRecDepth 100000
end Go.SX.Rg
namespace Go.SX.Rg
open Go Go.SX Go.Proofs
set_option maxRecDepth 100000
end Go.SX.Rg
namespace Go.SX.Rg
open Go Go.SX Go.Proofs
set_option maxRecDepth 100000
end Go.SX.Rg
