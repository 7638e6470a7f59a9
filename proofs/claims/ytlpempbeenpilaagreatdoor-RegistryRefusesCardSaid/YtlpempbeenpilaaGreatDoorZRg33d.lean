/- Parts of the proof. -/
import Derived.Test.YtlpempbeenpilaaGreatDoorZRgT
import Derived.Test.YtlpempbeenpilaaGreatDoorZRg46d
import Derived.Test.YtlpempbeenpilaaGreatDoorZRgH9
import Derived.Test.YtlpempbeenpilaaGreatDoorZRg30d
import Derived.Test.YtlpempbeenpilaaGreatDoorZRg44d
import Derived.Test.YtlpempbeenpilaaGreatDoorZRg92d
set_option linter.unusedSimpArgs false
set_option linter.unusedVariables false
set_option linter.unusedSectionVars false
namespace Go.SX.Rg
open Go Go.SX Go.Proofs
set_option maxRecDepth 100000
noncomputable def registry_Registry_Pass_b (show0:Int)(places0:Int)(titles0:(List (Int×Entry)))(at0:(List (Int×Int)))(serial:Int)(t_:Transfer):Option (Int×(List (Int×Entry))×(List (Int×Int))) :=
 optG (mlook titles0 serial) (fun y1 =>
 bif (io.lt 0 y1.gone) then (
 some (27,titles0,at0)
 ) else (
 Option.bind (
 bif (io.le 50 (io.len (W eTransfer y1.Title.Chain))) then (
 some (t_.Sig,y1.Title.Chain,3)
 ) else (
 Option.bind (slices_Clone_2_g t_.Sig) fun v5 =>
 Option.bind (slices_CloneW_g y1.Title.Chain) fun l6 =>
 Option.bind (some [(Transfer.mk t_.To v5)]) fun l7 =>
 Option.bind (appG l6 l7) fun l8 =>
 Option.bind (title_Valid_g (Title.mk y1.Title.Serial y1.Title.Show y1.Title.Place y1.Title.First l8)) fun v9 =>
 bif (io.not v9) then (
 some (v5,l8,20)
 ) else (
 some (v5,l8,0)
 )
 )
 ) fun (Sig2,Chain3,e4) =>
 bif (io.not (io.eq e4 0)) then (
 some (e4,titles0,at0)
 ) else (
 Option.bind (some (mputG titles0 serial (Entry.mk (Title.mk y1.Title.Serial y1.Title.Show y1.Title.Place y1.Title.First Chain3) y1.gone))) fun m10 =>
 Option.bind (
 bif (io.le 0 y1.Title.Place) then (
 Option.bind (some (mdelG at0 y1.Title.Place)) fun m12 =>
 some m12
 ) else (
 some at0
 )
 ) fun own11 =>
 Option.bind (
 bif (io.le 0 y1.Title.Place) then (
 some (io.eq y1.gone 0)
 ) else (
 some false
 )
 ) fun v13 =>
 bif v13 then (
 Option.bind (some (mputG own11 y1.Title.Place serial)) fun m14 =>
 some (0,m10,m14)
 ) else (
 some (0,m10,own11)
 )
 )
 )
 ) (
 some (11,titles0,at0)
 )
end Go.SX.Rg
namespace Go.SX.Rg
open Go Go.SX Go.Proofs
set_option maxRecDepth 100000
noncomputable def law32_do_b (show0:Int)(places0:Int)(titles0:(List (Int×Entry)))(at0:(List (Int×Int)))(x_:Op)(known:(List ByteArray)):Option (Int×Int×(List (Int×Entry))×(List (Int×Int))) :=
 bif (io.eq x_.Kind 0) then (
 Option.bind (
 bif (io.seq x_.Key (⟨#[]⟩)) then (
 Option.bind (ref02_Decimal_g x_.At) fun v2 =>
 Option.bind (catG (⟨#[102,105,114,115,116,32]⟩) v2) fun _ =>
 Option.bind (law32_secret_g (io.cat (⟨#[102,105,114,115,116,32]⟩) v2)) fun v3 =>
 Option.bind (sign_Public_g v3) fun known4 =>
 some known4
 ) else (
 some x_.Key
 )
 ) fun key1 =>
 Option.bind (registry_Registry_Issue_b show0 places0 titles0 at0 x_.At key1) fun r5 =>
 some (r5.1,r5.2.1,r5.2.2.1,r5.2.2.2)
 ) else (
 bif (io.eq x_.Kind 2) then (
 Option.bind (registry_Registry_Revoke_b show0 places0 titles0 at0 x_.Serial x_.At) fun r6 =>
 some (0,r6.1,r6.2.1,r6.2.2)
 ) else (
 bif (io.eq x_.Kind 3) then (
 Option.bind (registry_Registry_Move_b show0 places0 titles0 at0 x_.Serial x_.At) fun r7 =>
 some (0,r7.1,r7.2.1,r7.2.2)
 ) else (
 Option.bind (
 Option.bind (registry_Registry_Title_b show0 places0 titles0 at0 x_.Serial) fun r13 =>
 some (r13.1.Serial,r13.1.Show,r13.1.Place,r13.1.First,r13.1.Chain)
 ) fun (Serial8,Show9,Place10,First11,Chain12) =>
 Option.bind (law32_transfer_g x_ (Title.mk Serial8 Show9 Place10 First11 Chain12) known) fun v14 =>
 Option.bind (registry_Registry_Pass_b show0 places0 titles0 at0 x_.Serial v14) fun r15 =>
 some (0,r15.1,r15.2.1,r15.2.2)
 )
 )
 )
end Go.SX.Rg
namespace Go.SX.Rg
open Go Go.SX Go.Proofs
set_option maxRecDepth 100000
def c61r0 : List GOp:=[
 gv 3 (.mv (.const (.int .i64 0)))]
def c61r1 : List GOp:=[
 gv 4 (.mv (.tmp 0)),
 gv 5 (.nilck (.tmp 4)),
 gv 6 (.fadd 0 (.tmp 5)),
 gv 7 (.fadd 4 (.tmp 6)),
 gv 8 (.load 1 false (.tmp 7)),
 gv 9 (.len false (.tmp 8)),
 gv 10 (.bin .geq (.tmp 9) (.const (.int .i64 50)))]
def c61r2 : List GOp:=[
 gv 3 (.mv (.const (.int .i64 3)))]
def c61r3 : List GOp:=[
 gv 11 (.fadd 1 (.tmp 1)),
 gv 12 (.load 1 false (.tmp 11)),
 gv 13 (.call 62 [(.tmp 12)]),
 gv 14 (.fadd 1 (.tmp 1)),
 ⟨none,.store 1 (.tmp 14) (.tmp 13),none⟩]
def c61r4 : List GOp:=[
 gv 15 (.mv (.tmp 0)),
 gv 16 (.mv (.tmp 0)),
 gv 17 (.nilck (.tmp 16)),
 gv 18 (.fadd 0 (.tmp 17)),
 gv 19 (.fadd 4 (.tmp 18)),
 gv 20 (.load 1 false (.tmp 19)),
 gv 21 (.call 59 [(.tmp 20)]),
 gv 22 (.load 2 true (.tmp 1)),
 gv 23 (.bslice 46 2 1 (.agg #[(.string ⟨#[]⟩),(.slice none 0 0)]) [(0,(.tmp 22))]),
 gv 24 (.app 46 2 40 (.agg #[(.string ⟨#[]⟩),(.slice none 0 0)]) (.tmp 21) (.tmp 23))]
def c61r4z : List GOp:=[
 gv 25 (.nilck (.tmp 15)),
 gv 26 (.fadd 0 (.tmp 25)),
 gv 27 (.fadd 4 (.tmp 26)),
 ⟨none,.store 1 (.tmp 27) (.tmp 24),none⟩]
def c61r5 : List GOp:=[
 gv 28 (.mv (.tmp 0)),
 gv 29 (.nilck (.tmp 28)),
 gv 30 (.fadd 0 (.tmp 29)),
 gv 31 (.load 5 true (.tmp 30)),
 gv 32 (.call 41 [(.tmp 31)]),
 gv 33 (.un .not (.tmp 32))]
def c61r6 : List GOp:=[
 gv 3 (.mv (.const (.int .i64 20)))]
def c61r7 : List GOp:=[
 gv 3 (.mv (.const (.int .i64 0)))]
def c61 : EFn:=⟨34,.seq (.reg c61r0) (.seq (.seq (.reg c61r1) (.cond (.tmp 10) (.seq (.reg c61r2) (.ret)) (.skip))) (.seq (.reg c61r3) (.seq (.eff false false false [6,9] c61r4 c61r4z) (.seq (.seq (.reg c61r5) (.cond (.tmp 33) (.seq (.reg c61r6) (.ret)) (.skip))) (.seq (.reg c61r7) (.ret)))))),[.tmp 3]⟩
theorem c61_ok : compF Tryz.prog 61=some c61.er:=by kernel_rfl
def c33r0 : List GOp:=[
 gv 5 (.box 46 (.tmp 2)),
 gv 6 (.mv (.const (.int .i64 0)))]
def c33r1 : List GOp:=[
 gv 7 (.mv (.tmp 0)),
 gv 8 (.mv (.tmp 1)),
 gv 9 (.mkfn (.func 61) [] [(.tmp 5)]),
 gv 10 (.call 60 [(.tmp 7),(.tmp 8),(.tmp 9)]),
 gv 6 (.mv (.tmp 10))]
def c33 : EFn:=⟨11,.seq (.reg c33r0) (.seq (.reg c33r1) (.ret)),[.tmp 6]⟩
theorem c33_ok : compF Tryz.prog 33=some c33.er:=by kernel_rfl
set_option maxHeartbeats 8000000 in
theorem registry_Registry_Pass_R {P:Program}(hP:P=Tryz.prog)(show0:Int)(places0:Int)(titles0:(List (Int×Entry)))(at0:(List (Int×Int)))(serial:Int)(t_:Transfer)(r:Int×(List (Int×Entry))×(List (Int×Int)))(h:registry_Registry_Pass_b show0 places0 titles0 at0 serial t_=some r):SCall P 33 [.cells [oi show0,oi places0,.hd 1,.hd 2] 74,.mp (.int .i64) true (WM (Value.int .i64) eEntry titles0),.mp (.int .i64) false (WM (Value.int .i64) eIi64 at0)] [.ptr 0 0,oi serial,.agg [.d (.val (.string t_.To)),.d (.sl (W eS t_.Sig))]] (fun sv own'=>sv=oi r.1∧own'=[.cells [oi show0,oi places0,.hd 1,.hd 2] 74,.mp (.int .i64) true (WM (Value.int .i64) eEntry r.2.1),.mp (.int .i64) false (WM (Value.int .i64) eIi64 r.2.2)]):=by
 refine .walkF 3 rfl (Nat.le_of_ble_eq_true rfl) (hP▸c33_ok) fun K hK=>?_;unfold registry_Registry_Pass_b at h;cbv;refine .inl (hP▸c60_ok) ?_;cbv;refine .oi (e:=eEntry) h (by first | rfl | exact WM_nil' _ _) (fun y1 h=>?_) (fun h=>?_)
 ·cbv;refine brkF io_nt ?_;cbv;refine brkG h ?_ ?_<;>intro h
  ·cbv;obtain rfl:=oj h;refine hK _ _ [] [0,1,2] ?_;(cbv;repeat (refine⟨an_,?_⟩;cbv))
  ·cbv;refine .g h (fun ((Sig2,Chain3,e4):(List ByteArray)×(List Transfer)×Int)=>[.ptr 0 0,oi serial]++rp 5 .top++[.ptr 4 0,.top,oi y1.Title.Place,oi e4]++rp 56 .top) (fun (Sig2,Chain3,e4)=>[.cells [oi show0,oi places0,.hd 1,.hd 2] 74,.mp (.int .i64) true (WM (Value.int .i64) eEntry titles0),.mp (.int .i64) false (WM (Value.int .i64) eIi64 at0),.cells [.d (.val (.string t_.To)),.d (.sl (W eS Sig2))] 46,.cells [oi y1.Title.Serial,oi y1.Title.Show,oi y1.Title.Place,.d (.val (.string y1.Title.First)),.d (.sl (W eTransfer Chain3)),oi y1.gone] 78]) (fun y hm Kn1 hKn1=>?_) fun t h=>?_
   ·have h:=hm;clear hm;cbv;refine .inl (hP▸c61_ok) ?_;cbv;refine brkG h ?_ ?_<;>intro h
    ·cbv;obtain rfl:=oj h;refine hKn1 _ _ _ rfl (.nz (.mtE [0,1,2,3,4] ?_));(cbv;repeat (refine⟨an_,?_⟩;cbv))
    ·cbv;refine .g h (fun v hv=>slices_Clone_2_R hP _ v hv) aw_ rfl (fun _=>rfl) fun v5 h=>?_;cbv;refine .gx [] 5 ?_;cbv;obtain⟨l6,hm,h⟩:=Option.bind_eq_some_iff.1 h;refine .emb [] (slices_CloneW_O hP _ _ hm) (by (cbv;repeat (refine⟨an_,?_⟩;cbv))) ?_;clear hm;cbv;refine⟨.of (by (cbv;repeat (first | exact trivial | refine⟨by first | rfl | trivial,?_⟩))),?_⟩;cbv;refine .g (e:=eTransfer) h (W_cons aw_ (W_nil' _)) fun l7 h=>?_;cbv;refine .g h rfl (fun _=>rfl) (by decide) fun l8 h=>?_;cbv;refine⟨.of (by (cbv;repeat (first | exact trivial | refine⟨by first | rfl | trivial,?_⟩))),?_⟩;cbv;refine .gl [] h (fun v hv=>title_Valid_R hP _ v hv) aw_ rfl fun v9 h=>?_;cbv;refine brkG h ?_ ?_<;>intro h
     ·cbv;obtain rfl:=oj h;refine hKn1 _ _ _ rfl (.frz [.hd 6] (.nz (.mtE [0,1,2,3,4] ?_)));(cbv;repeat (refine⟨an_,?_⟩;cbv))
     ·cbv;obtain rfl:=oj h;refine hKn1 _ _ _ rfl (.frz [.hd 6] (.nz (.mtE [0,1,2,3,4] ?_)));(cbv;repeat (refine⟨an_,?_⟩;cbv))
   obtain⟨Sig2,Chain3,e4⟩:=t;cbv;refine brkG h ?_ ?_<;>intro h
   ·cbv;obtain rfl:=oj h;refine hK _ _ [] [0,1,2] ?_;(cbv;repeat (refine⟨an_,?_⟩;cbv))
   ·cbv;refine .gi (e:=eEntry) h (by first | rfl | exact WM_nil' _ _) aw_ fun m10 h=>?_;cbv;refine .g h (fun (own11:(List (Int×Int)))=>[.ptr 0 0,oi serial]++rp 5 .top++[.ptr 4 0]++rp 59 .top) (fun own11=>[.cells [oi show0,oi places0,.hd 1,.hd 2] 74,.mp (.int .i64) true (WM (Value.int .i64) eEntry m10),.mp (.int .i64) false (WM (Value.int .i64) eIi64 own11),.cells [.d (.val (.string t_.To)),.d (.sl (W eS Sig2))] 46,.cells [oi y1.Title.Serial,oi y1.Title.Show,oi y1.Title.Place,.d (.val (.string y1.Title.First)),.d (.sl (W eTransfer Chain3)),oi y1.gone] 78]) (fun y hm Kn1 hKn1=>?_) fun t h=>?_
    ·have h:=hm;clear hm;cbv;refine brkG h ?_ ?_<;>intro h
     ·cbv;refine .gi (e:=eIi64) h rfl fun m12 h=>?_;cbv;obtain rfl:=oj h;refine hKn1 _ _ _ rfl (.nz (.mtE [0,1,2,3,4] ?_));(cbv;repeat (refine⟨an_,?_⟩;cbv))
     ·cbv;obtain rfl:=oj h;refine hKn1 _ _ _ rfl (.nz (.mtE [0,1,2,3,4] ?_));(cbv;repeat (refine⟨an_,?_⟩;cbv))
    obtain⟨own11,rfl⟩:=ez t;cbv;refine .g h (fun (v13:Bool)=>[.ptr 0 0,oi serial]++rp 5 .top++[.ptr 4 0]++rp 50 .top++[ob v13]++rp 8 .top) (fun v13=>[.cells [oi show0,oi places0,.hd 1,.hd 2] 74,.mp (.int .i64) true (WM (Value.int .i64) eEntry m10),.mp (.int .i64) false (WM (Value.int .i64) eIi64 own11),.cells [.d (.val (.string t_.To)),.d (.sl (W eS Sig2))] 46,.cells [oi y1.Title.Serial,oi y1.Title.Show,oi y1.Title.Place,.d (.val (.string y1.Title.First)),.d (.sl (W eTransfer Chain3)),oi y1.gone] 78]) (fun y hm Kn1 hKn1=>?_) fun t h=>?_
    ·have h:=hm;clear hm;cbv;refine brkG h ?_ ?_<;>intro h
     ·cbv;obtain rfl:=oj h;refine hKn1 _ _ _ rfl (.nz (.mtE [0,1,2,3,4] ?_));(cbv;repeat (refine⟨an_,?_⟩;cbv))
     ·cbv;obtain rfl:=oj h;refine hKn1 _ _ _ rfl (.nz (.mtE [0,1,2,3,4] ?_));(cbv;repeat (refine⟨an_,?_⟩;cbv))
    obtain⟨v13,rfl⟩:=ez t;cbv;refine brkG h ?_ ?_<;>intro h
    ·cbv;refine .gi (e:=eIi64) h (by first | rfl | exact WM_nil' _ _) aw_ fun m14 h=>?_;cbv;obtain rfl:=oj h;refine hK _ _ [] [0,1,2] ?_;(cbv;repeat (refine⟨an_,?_⟩;cbv))
    ·cbv;obtain rfl:=oj h;refine hK _ _ [] [0,1,2] ?_;(cbv;repeat (refine⟨an_,?_⟩;cbv))
 ·cbv;refine brkT io_nf ?_;cbv;obtain rfl:=oj h;refine hK _ _ [] [0,1,2] ?_;(cbv;repeat (refine⟨an_,?_⟩;cbv))
end Go.SX.Rg
namespace Go.SX.Rg
open Go Go.SX Go.Proofs
set_option maxRecDepth 100000
def c16r0 : List GOp:=[
 gv 2 (.mv (.const (.string ⟨#[]⟩)))]
def c16r1 : List GOp:=[
 gv 3 (.mv (.tmp 0)),
 gv 4 (.call 47 [(.tmp 3)]),
 gv 5 (.div .add (.const (.string ⟨#[102,105,114,115,116,32]⟩)) (.tmp 4)),
 gv 6 (.call 31 [(.tmp 5)]),
 gv 7 (.call 30 [(.tmp 6)]),
 gv 2 (.mv (.tmp 7))]
def c16 : EFn:=⟨8,.seq (.reg c16r0) (.seq (.reg c16r1) (.ret)),[.tmp 2]⟩
theorem c16_ok : compF Tryz.prog 16=some c16.er:=by kernel_rfl
def c15r0 : List GOp:=[
 gv 4 (.box 32 (.tmp 1)),
 gv 6 (.mv (.const (.int .i64 0))),
 gv 7 (.mv (.const (.int .i64 0)))]
def c15r1 : List GOp:=[
 gv 12 (.fadd 0 (.tmp 4)),
 gv 13 (.load 1 false (.tmp 12))]
def c15r2 : List GOp:=[
 gv 15 (.bin .eql (.tmp 13) (.const (.int .i64 0))),
 gv 14 (.mv (.tmp 15))]
def c15r3 : List GOp:=[
 gv 16 (.fadd 3 (.tmp 4)),
 gv 17 (.load 1 false (.tmp 16)),
 gv 8 (.mv (.tmp 17))]
def c15r4 : List GOp:=[
 gv 18 (.mv (.tmp 8)),
 gv 19 (.bin .eql (.tmp 18) (.const (.string ⟨#[]⟩)))]
def c15r5 : List GOp:=[
 gv 20 (.fadd 2 (.tmp 4)),
 gv 21 (.load 1 false (.tmp 20)),
 gv 22 (.call 16 [(.tmp 21)]),
 gv 8 (.mv (.tmp 22))]
def c15r6 : List GOp:=[
 gv 23 (.mv (.tmp 0)),
 gv 24 (.fadd 2 (.tmp 4)),
 gv 25 (.load 1 false (.tmp 24)),
 gv 26 (.mv (.tmp 8)),
 gv 27 (.call 43 [(.tmp 23),(.tmp 25),(.tmp 26)]),
 gv 28 (.ext (.tmp 27) 0),
 gv 29 (.ext (.tmp 27) 1),
 gv 6 (.mv (.tmp 28)),
 gv 7 (.mv (.tmp 29))]
def c15r7 : List GOp:=[
 gv 31 (.bin .eql (.tmp 13) (.const (.int .i64 2))),
 gv 30 (.mv (.tmp 31))]
def c15r8 : List GOp:=[
 gv 32 (.mv (.tmp 0)),
 gv 33 (.fadd 1 (.tmp 4)),
 gv 34 (.load 1 false (.tmp 33)),
 gv 35 (.fadd 2 (.tmp 4)),
 gv 36 (.load 1 false (.tmp 35)),
 gv 37 (.call 45 [(.tmp 32),(.tmp 34),(.tmp 36)]),
 gv 6 (.mv (.const (.int .i64 0))),
 gv 7 (.mv (.tmp 37))]
def c15r9 : List GOp:=[
 gv 39 (.bin .eql (.tmp 13) (.const (.int .i64 3))),
 gv 38 (.mv (.tmp 39))]
def c15r10 : List GOp:=[
 gv 40 (.mv (.tmp 0)),
 gv 41 (.fadd 1 (.tmp 4)),
 gv 42 (.load 1 false (.tmp 41)),
 gv 43 (.fadd 2 (.tmp 4)),
 gv 44 (.load 1 false (.tmp 43)),
 gv 45 (.call 38 [(.tmp 40),(.tmp 42),(.tmp 44)]),
 gv 6 (.mv (.const (.int .i64 0))),
 gv 7 (.mv (.tmp 45))]
def c15r11 : List GOp:=[
 gv 47 (.mv (.tmp 0)),
 gv 48 (.fadd 1 (.tmp 4)),
 gv 49 (.load 1 false (.tmp 48)),
 gv 50 (.call 14 [(.tmp 47),(.tmp 49)]),
 gv 46 (.mv (.tmp 50)),
 gv 51 (.ext (.tmp 46) 0),
 gv 52 (.ext (.tmp 46) 1),
 gv 53 (.ext (.tmp 46) 2),
 gv 9 (.alloc 35 (.agg #[oz,oz,oz,(.string ⟨#[]⟩),(.slice none 0 0)])),
 ⟨none,.store 5 (.tmp 9) (.tmp 51),none⟩,
 gv 10 (.mv (.tmp 52)),
 gv 11 (.mv (.tmp 53))]
def c15r12 : List GOp:=[
 gv 54 (.mv (.tmp 0)),
 gv 55 (.fadd 1 (.tmp 4)),
 gv 56 (.load 1 false (.tmp 55)),
 gv 57 (.load 5 true (.tmp 4)),
 gv 58 (.load 5 true (.tmp 9)),
 gv 59 (.mv (.tmp 2)),
 gv 60 (.call 21 [(.tmp 57),(.tmp 58),(.tmp 59)])]
def c15r12z : List GOp:=[
 gv 61 (.call 33 [(.tmp 54),(.tmp 56),(.tmp 60)]),
 gv 6 (.mv (.const (.int .i64 0))),
 gv 7 (.mv (.tmp 61))]
def c15 : EFn:=⟨62,.seq (.reg c15r0) (.seq (.seq (.reg c15r1) (.block 0 (.seq (.reg c15r2) (.cond (.tmp 14) (.seq (.reg c15r3) (.join (.seq (.reg c15r4) (.cond (.tmp 19) (.reg c15r5) (.skip))) (.seq (.reg c15r6) (.ret)))) (.seq (.reg c15r7) (.cond (.tmp 30) (.seq (.reg c15r8) (.ret)) (.seq (.reg c15r9) (.cond (.tmp 38) (.seq (.reg c15r10) (.ret)) (.skip))))))))) (.join (.reg c15r11) (.seq (.sfx false false false true c15r12 c15r12z) (.ret)))),[.tmp 6,.tmp 7]⟩
theorem c15_ok : compF Tryz.prog 15=some c15.er:=by kernel_rfl
set_option maxHeartbeats 8000000 in
theorem law32_do_R {P:Program}(hP:P=Tryz.prog)(show0:Int)(places0:Int)(titles0:(List (Int×Entry)))(at0:(List (Int×Int)))(x_:Op)(known:(List ByteArray))(r:Int×Int×(List (Int×Entry))×(List (Int×Int)))(h:law32_do_b show0 places0 titles0 at0 x_ known=some r):SCall P 15 [.cells [oi show0,oi places0,.hd 1,.hd 2] 74,.mp (.int .i64) true (WM (Value.int .i64) eEntry titles0),.mp (.int .i64) false (WM (Value.int .i64) eIi64 at0)] [.ptr 0 0,.agg [oi x_.Kind,oi x_.Serial,oi x_.At,.d (.val (.string x_.Key)),.d (.sl (W eS x_.Sig))],.d (.sl (W eS known))] (fun sv own'=>sv=.tup [oi r.1,oi r.2.1]∧own'=[.cells [oi show0,oi places0,.hd 1,.hd 2] 74,.mp (.int .i64) true (WM (Value.int .i64) eEntry r.2.2.1),.mp (.int .i64) false (WM (Value.int .i64) eIi64 r.2.2.2)]):=by
 refine .walkF 3 rfl (Nat.le_of_ble_eq_true rfl) (hP▸c15_ok) fun K hK=>?_;unfold law32_do_b at h;cbv;refine brkG h ?_ ?_<;>intro h
 ·cbv;refine .g h (fun (key1:ByteArray)=>[.ptr 0 0]++rp 3 .top++[.ptr 3 0]++rp 3 .top++[.d (.val (.string key1))]++rp 53 .top) (fun key1=>[.cells [oi show0,oi places0,.hd 1,.hd 2] 74,.mp (.int .i64) true (WM (Value.int .i64) eEntry titles0),.mp (.int .i64) false (WM (Value.int .i64) eIi64 at0),.cells [oi x_.Kind,oi x_.Serial,oi x_.At,.d (.val (.string x_.Key)),.d (.sl (W eS x_.Sig))] 32]) (fun y hm Kn1 hKn1=>?_) fun t h=>?_
  ·have h:=hm;clear hm;cbv;refine brkG h ?_ ?_<;>intro h
   ·cbv;refine .inl (hP▸c16_ok) ?_;cbv;refine .g h (fun v hv=>ref02_Decimal_R hP _ v hv) aw_ rfl (fun _=>rfl) fun v2 h=>?_;cbv;refine .g h fun h=>?_;cbv;refine .g h (fun v hv=>law32_secret_R hP _ v hv) aw_ rfl (fun _=>rfl) fun v3 h=>?_;cbv;refine .g h (fun v hv=>sign_Public_R hP _ v hv) aw_ rfl (fun _=>rfl) fun known4 h=>?_;cbv;obtain rfl:=oj h;refine hKn1 _ _ _ rfl (.nz (.mtE [0,1,2,3] ?_));(cbv;repeat (refine⟨an_,?_⟩;cbv))
   ·cbv;obtain rfl:=oj h;refine hKn1 _ _ _ rfl (.nz (.mtE [0,1,2,3] ?_));(cbv;repeat (refine⟨an_,?_⟩;cbv))
  obtain⟨key1,rfl⟩:=ez t;cbv;obtain⟨r5,hm,h⟩:=Option.bind_eq_some_iff.1 h;refine .embL [0,1,2] (registry_Registry_Issue_R hP _ _ _ _ _ _ _ hm) (by (cbv;repeat (refine⟨an_,?_⟩;cbv))) fun sv0 own0 hq _=>?_;obtain⟨rfl,rfl⟩:=hq;clear hm;cbv;obtain rfl:=oj h;refine hK _ _ [] [0,1,2] ?_;(cbv;repeat (refine⟨an_,?_⟩;cbv))
 ·cbv;refine brkG h ?_ ?_<;>intro h
  ·cbv;obtain⟨r6,hm,h⟩:=Option.bind_eq_some_iff.1 h;refine .embL [0,1,2] (registry_Registry_Revoke_R hP _ _ _ _ _ _ _ hm) (by (cbv;repeat (refine⟨an_,?_⟩;cbv))) fun sv0 own0 hq _=>?_;obtain⟨rfl,rfl⟩:=hq;clear hm;cbv;obtain rfl:=oj h;refine hK _ _ [] [0,1,2] ?_;(cbv;repeat (refine⟨an_,?_⟩;cbv))
  ·cbv;refine brkG h ?_ ?_<;>intro h
   ·cbv;obtain⟨r7,hm,h⟩:=Option.bind_eq_some_iff.1 h;refine .embL [0,1,2] (registry_Registry_Move_R hP _ _ _ _ _ _ _ hm) (by (cbv;repeat (refine⟨an_,?_⟩;cbv))) fun sv0 own0 hq _=>?_;obtain⟨rfl,rfl⟩:=hq;clear hm;cbv;obtain rfl:=oj h;refine hK _ _ [] [0,1,2] ?_;(cbv;repeat (refine⟨an_,?_⟩;cbv))
   ·cbv;refine .g h (fun ((Serial8,Show9,Place10,First11,Chain12):Int×Int×Int×ByteArray×(List Transfer))=>[.ptr 0 0,.top,.d (.sl (W eS known)),.top,.ptr 3 0]++rp 4 .top++[.ptr 4 0]++rp 52 .top) (fun (Serial8,Show9,Place10,First11,Chain12)=>[.cells [oi show0,oi places0,.hd 1,.hd 2] 74,.mp (.int .i64) true (WM (Value.int .i64) eEntry titles0),.mp (.int .i64) false (WM (Value.int .i64) eIi64 at0),.cells [oi x_.Kind,oi x_.Serial,oi x_.At,.d (.val (.string x_.Key)),.d (.sl (W eS x_.Sig))] 32,.cells [oi Serial8,oi Show9,oi Place10,.d (.val (.string First11)),.d (.sl (W eTransfer Chain12))] 35]) (fun y hm Kn1 hKn1=>?_) fun t h=>?_
    ·have h:=hm;clear hm;cbv;obtain⟨r13,hm,h⟩:=Option.bind_eq_some_iff.1 h;refine .embL [0,1,2] (registry_Registry_Title_R hP _ _ _ _ _ _ hm) (by (cbv;repeat (refine⟨an_,?_⟩;cbv))) fun sv0 own0 hq _=>?_;obtain⟨rfl,rfl⟩:=hq;clear hm;cbv;obtain rfl:=oj h;refine hKn1 _ _ _ rfl (.nz (.mtE [0,1,2,3,4] ?_));(cbv;repeat (refine⟨an_,?_⟩;cbv))
    obtain⟨Serial8,Show9,Place10,First11,Chain12⟩:=t;cbv;refine .g h (fun v hv=>law32_transfer_R hP _ _ _ v hv) aw_ rfl (fun _=>rfl) fun v14 h=>?_;cbv;obtain⟨r15,hm,h⟩:=Option.bind_eq_some_iff.1 h;refine .embL [0,1,2] (registry_Registry_Pass_R hP _ _ _ _ _ _ _ hm) (by (cbv;repeat (refine⟨an_,?_⟩;cbv))) fun sv0 own0 hq _=>?_;obtain⟨rfl,rfl⟩:=hq;clear hm;cbv;obtain rfl:=oj h;refine hK _ _ [] [0,1,2] ?_;(cbv;repeat (refine⟨an_,?_⟩;cbv))
end Go.SX.Rg
namespace Go.SX.Rg
open Go Go.SX Go.Proofs
set_option maxRecDepth 100000
noncomputable def law32_played_l2 (l:(List Op))(show_:Int)(known1:(List ByteArray)):((List (Int×Entry))×(List (Int×Int))×Int)→Option (((List (Int×Entry))×(List (Int×Int))×Int) ⊕ ((List (Int×Entry))×(List (Int×Int))))
 | (titles4,at5,i6) =>
 bif (io.lt i6 (io.len (W eOp l))) then (
 Option.bind (
 Option.bind (idxG l i6) fun x9 =>
 Option.bind (law32_do_b (io.rem (io.wrap .i64 show_) 20) 8 titles4 at5 x9 known1) fun r10 =>
 some (r10.2.2.1,r10.2.2.2)
 ) fun (titles7,at8) =>
 some (.inl (titles7,at8,(io.ar .add .i64 i6 1)))
 ) else (
 some (.inr (titles4,at5))
 )
noncomputable def law32_played_b (show_:Int)(l:(List Op)):Option (Int×Int×(List (Int×Entry))×(List (Int×Int))) :=
 Option.bind (divG 20) fun _ =>
 optN (registry_New_b (io.rem (io.wrap .i64 show_) 20) 8) (
 Option.bind (law32_secrets_g l) fun known1 =>
 Option.bind (
 whileG (law32_played_l2 l show_ known1) ([],[],0)
 ) fun (titles2,at3) =>
 some ((io.rem (io.wrap .i64 show_) 20),8,titles2,at3)
 ) none
end Go.SX.Rg
namespace Go.SX.Rg
open Go Go.SX Go.Proofs
set_option maxRecDepth 100000
def c29r0 : List GOp:=[
 gv 4 (.mv (.const (.pointer none)))]
def c29r1 : List GOp:=[
 gv 8 (.mv (.tmp 0)),
 gv 9 (.cvi .i64 (.tmp 8)),
 gv 10 (.div .rem (.tmp 9) (.const (.int .i64 20))),
 gv 11 (.call 11 [(.tmp 10),(.const (.int .i64 8))]),
 gv 5 (.mv (.tmp 11))]
def c29r2 : List GOp:=[
 gv 12 (.mv (.tmp 1)),
 gv 13 (.call 13 [(.tmp 12)]),
 gv 6 (.mv (.tmp 13))]
def c29r3 : List GOp:=[
 gv 7 (.mv (.const (.int .i64 0)))]
def c29r4 : List GOp:=[
 gv 14 (.mv (.tmp 7)),
 gv 15 (.mv (.tmp 1)),
 gv 16 (.len false (.tmp 15)),
 gv 17 (.bin .lss (.tmp 14) (.tmp 16))]
def c29r5 : List GOp:=[
 gv 20 (.mv (.tmp 5)),
 gv 21 (.mv (.tmp 1)),
 gv 22 (.mv (.tmp 7)),
 gv 23 (.idxA 5 (.tmp 21) (.tmp 22)),
 gv 24 (.load 5 true (.tmp 23)),
 gv 25 (.mv (.tmp 6)),
 gv 26 (.call 15 [(.tmp 20),(.tmp 24),(.tmp 25)])]
def c29r6 : List GOp:=[
 gv 18 (.mv (.tmp 7)),
 gv 19 (.bin .add (.tmp 18) (.const (.int .i64 1))),
 gv 7 (.mv (.tmp 19))]
def c29l7 : DE:=.seq (.seq (.reg c29r4) (.cond (.tmp 17) (.skip) (.exit 0))) (.join (.block 1 (.reg c29r5)) (.reg c29r6))
def c29r8 : List GOp:=[
 gv 27 (.mv (.tmp 5)),
 gv 4 (.mv (.tmp 27))]
def c29 : EFn:=⟨28,.seq (.reg c29r0) (.seq (.reg c29r1) (.seq (.reg c29r2) (.join (.seq (.reg c29r3) (.block 0 (.loop c29l7))) (.seq (.reg c29r8) (.ret))))),[.tmp 4]⟩
theorem c29_ok : compF Tryz.prog 29=some c29.er:=by kernel_rfl
set_option maxHeartbeats 8000000 in
theorem law32_played_R {P:Program}(hP:P=Tryz.prog)(show_:Int)(l:(List Op))(r:Int×Int×(List (Int×Entry))×(List (Int×Int)))(h:law32_played_b show_ l=some r):SCall P 29 [] [.d (.val (.int .u8 show_)),.d (.sl (W eOp l))] (fun sv own'=>sv=.ptr 0 0∧own'=[.cells [oi r.1,oi r.2.1,.hd 1,.hd 2] 74,.mp (.int .i64) true (WM (Value.int .i64) eEntry r.2.2.1),.mp (.int .i64) false (WM (Value.int .i64) eIi64 r.2.2.2)]):=by
 refine .walkF 0 rfl (Nat.le_of_ble_eq_true rfl) (hP▸c29_ok) fun K hK=>?_;unfold law32_played_b at h;cbv;refine .g h fun h=>?_;cbv;obtain⟨hb,h⟩:=optN_ok h;refine .emb [] (registry_New_ok hP _ _ hb) (by (cbv;repeat (refine⟨an_,?_⟩;cbv))) fun sv0 own0 hq _=>?_;obtain⟨rfl,rfl⟩:=hq
 clear hb
 cbv;refine .g h (fun v hv=>law32_secrets_R hP _ v hv) aw_ rfl (fun _=>rfl) fun known1 h=>?_;cbv;refine .g h (fun ((titles2,at3):(List (Int×Entry))×(List (Int×Int)))=>rp 5 .top++[.ptr 0 0]++rp 22 .top) (fun (titles2,at3)=>[.cells [oi (io.rem (io.wrap .i64 show_) 20),oi 8,.hd 1,.hd 2] 74,.mp (.int .i64) true (WM (Value.int .i64) eEntry titles2),.mp (.int .i64) false (WM (Value.int .i64) eIi64 at3)]) (fun y hm Kn1 hKn1=>?_) fun t h=>?_
 ·have h:=hm;clear hm;cbv;refine .g h (fun ((titles4,at5,i6):(List (Int×Entry))×(List (Int×Int))×Int)=>[.top,.d (.sl (W eOp l))]++rp 3 .top++[.ptr 0 0,.d (.sl (W eS known1)),oi i6]++rp 20 .top) (fun (titles4,at5,i6)=>[.cells [oi (io.rem (io.wrap .i64 show_) 20),oi 8,.hd 1,.hd 2] 74,.mp (.int .i64) true (WM (Value.int .i64) eEntry titles4),.mp (.int .i64) false (WM (Value.int .i64) eIi64 at5)]) (.nz (.mtE [0,1,2] ?_)) fun s x h hr2 Kn2 hKn2=>?_
  ·(cbv;repeat (refine⟨an_,?_⟩;cbv))
  unfold law32_played_l2 at h;obtain⟨titles4,at5,i6⟩:=s;cbv;refine brkG h ?_ ?_<;>intro h
  ·cbv;refine .g h (fun ((titles7,at8):(List (Int×Entry))×(List (Int×Int)))=>[.top,.d (.sl (W eOp l))]++rp 3 .top++[.ptr 0 0,.d (.sl (W eS known1)),oi i6]++rp 20 .top) (fun (titles7,at8)=>[.cells [oi (io.rem (io.wrap .i64 show_) 20),oi 8,.hd 1,.hd 2] 74,.mp (.int .i64) true (WM (Value.int .i64) eEntry titles7),.mp (.int .i64) false (WM (Value.int .i64) eIi64 at8)]) (fun y hm Kn3 hKn3=>?_) fun t h=>?_
   ·have h:=hm;clear hm;cbv;refine .g h (fun _=>rfl) fun x9 h=>?_;cbv;obtain⟨r10,hm,h⟩:=Option.bind_eq_some_iff.1 h;refine .embL [0,1,2] (law32_do_R hP _ _ _ _ _ _ _ hm) (by (cbv;repeat (refine⟨an_,?_⟩;cbv))) fun sv0 own0 hq _=>?_;obtain⟨rfl,rfl⟩:=hq;clear hm;cbv;obtain rfl:=oj h;refine hKn3 _ _ _ rfl (.nz (.mtE [0,1,2] ?_));(cbv;repeat (refine⟨an_,?_⟩;cbv))
   obtain⟨titles7,at8⟩:=t;cbv;obtain rfl:=oj h;refine hKn2 _ _ _ rfl (.nz (.mtE [0,1,2] ?_));(cbv;repeat (refine⟨an_,?_⟩;cbv))
  ·cbv;obtain rfl:=oj h;obtain rfl:=hr2 _ rfl;refine hKn1 _ _ _ rfl (.nz (.mtE [0,1,2] ?_));(cbv;repeat (refine⟨an_,?_⟩;cbv))
 obtain⟨titles2,at3⟩:=t;cbv;obtain rfl:=oj h;refine hK _ _ [] [0,1,2] ?_;(cbv;repeat (refine⟨an_,?_⟩;cbv))
end Go.SX.Rg
namespace Go.SX.Rg
open Go Go.SX Go.Proofs
set_option maxRecDepth 100000
noncomputable def title_Pass_g (t_:Title)(to:ByteArray)(secret:ByteArray):Option (Title×Int) :=
 Option.bind (
 Option.bind (title_Valid_g t_) fun v2 =>
 bif (io.not v2) then (
 some true
 ) else (
 Option.bind (digest_Is_g to) fun v3 =>
 some (io.not v3)
 )
 ) fun v1 =>
 bif v1 then (
 some ((Title.mk 0 0 0 (⟨#[]⟩) []),1)
 ) else (
 bif (io.eq (io.len (W eTransfer t_.Chain)) 50) then (
 some ((Title.mk 0 0 0 (⟨#[]⟩) []),3)
 ) else (
 Option.bind (title_used_g t_ to) fun v4 =>
 bif v4 then (
 some ((Title.mk 0 0 0 (⟨#[]⟩) []),9)
 ) else (
 Option.bind (sign_Public_g secret) fun v5 =>
 Option.bind (title_Owner_g t_) fun v6 =>
 bif (io.not (io.seq v5 v6)) then (
 some ((Title.mk 0 0 0 (⟨#[]⟩) []),20)
 ) else (
 Option.bind (slices_CloneW_g t_.Chain) fun l7 =>
 Option.bind (title_Message_g t_ to) fun v8 =>
 Option.bind (sign_Sign_g secret v8) fun v9 =>
 Option.bind (some [(Transfer.mk to v9)]) fun l10 =>
 Option.bind (appG l7 l10) fun l11 =>
 some ((Title.mk t_.Serial t_.Show t_.Place t_.First l11),0)
 )
 )
 )
 )
end Go.SX.Rg
namespace Go.SX.Rg
open Go Go.SX Go.Proofs
set_option maxRecDepth 100000
noncomputable def law32_head_g : Option (Bool) :=
 optN (registry_New_b 2 5) (
 Option.bind (sign_Public_g (⟨#[107]⟩)) fun k1 =>
 Option.bind (
 Option.bind (registry_Registry_Issue_b 2 5 ([]:(List (Int×Entry))) ([]:(List (Int×Int))) 3 k1) fun r6 =>
 some (r6.2.2.1,r6.2.2.2,r6.1,r6.2.1)
 ) fun (titles2,at3,a4,e5) =>
 Option.bind (
 Option.bind (digest_Sum_g (⟨#[108]⟩)) fun v10 =>
 Option.bind (registry_Registry_Issue_b 2 5 titles2 at3 3 v10) fun r11 =>
 some (r11.2.2.1,r11.2.2.2,r11.2.1)
 ) fun (titles7,at8,f9) =>
 Option.bind (
 Option.bind (registry_Registry_At_b 2 5 titles7 at8 3) fun r13 =>
 some r13
 ) fun at12 =>
 Option.bind (
 Option.bind (registry_Registry_Move_b 2 5 titles7 at8 30001 4) fun r17 =>
 some (r17.2.1,r17.2.2,r17.1)
 ) fun (titles14,at15,g16) =>
 Option.bind (
 Option.bind (digest_Sum_g (⟨#[108]⟩)) fun v22 =>
 Option.bind (registry_Registry_Issue_b 2 5 titles14 at15 3 v22) fun r23 =>
 some (r23.2.2.1,r23.2.2.2,r23.1,r23.2.1)
 ) fun (titles18,at19,b20,h21) =>
 Option.bind (
 Option.bind (registry_Registry_Title_b 2 5 titles18 at19 30001) fun r30 =>
 some (r30.1.Serial,r30.1.Show,r30.1.Place,r30.1.First,r30.1.Chain,r30.2.2)
 ) fun (Serial24,Show25,Place26,First27,Chain28,i29) =>
 Option.bind (digest_Sum_g (⟨#[109]⟩)) fun v31 =>
 Option.bind (title_Pass_g (Title.mk Serial24 Show25 Place26 First27 Chain28) v31 (⟨#[107]⟩)) fun v32 =>
 Option.bind (
 bif (io.not (io.eq v32.2 0)) then (
 some true
 ) else (
 some (io.not (io.eq (io.len (W eTransfer v32.1.Chain)) 1))
 )
 ) fun v33 =>
 bif v33 then (
 some false
 ) else (
 Option.bind (
 Option.bind (idxG v32.1.Chain 0) fun x37 =>
 Option.bind (registry_Registry_Pass_b 2 5 titles18 at19 30001 x37) fun r38 =>
 some (r38.2.1,r38.2.2,r38.1)
 ) fun (titles34,at35,l36) =>
 Option.bind (
 Option.bind (idxG v32.1.Chain 0) fun x42 =>
 Option.bind (registry_Registry_Pass_b 2 5 titles34 at35 30001 x42) fun r43 =>
 some (r43.2.1,r43.2.2,r43.1)
 ) fun (titles39,at40,m41) =>
 Option.bind (
 Option.bind (registry_Registry_Revoke_b 2 5 titles39 at40 30001 100) fun r47 =>
 some (r47.2.1,r47.2.2,r47.1)
 ) fun (titles44,at45,n46) =>
 Option.bind (
 Option.bind (registry_Registry_Revoke_b 2 5 titles44 at45 30001 101) fun r51 =>
 some (r51.2.1,r51.2.2,r51.1)
 ) fun (titles48,at49,o50) =>
 Option.bind (
 Option.bind (digest_Sum_g (⟨#[109]⟩)) fun v56 =>
 Option.bind (registry_Registry_Issue_b 2 5 titles48 at49 4 v56) fun r57 =>
 some (r57.2.2.1,r57.2.2.2,r57.1,r57.2.1)
 ) fun (titles52,at53,c54,p55) =>
 Option.bind (
 Option.bind (registry_Registry_Title_b 2 5 titles52 at53 30001) fun r65 =>
 some (r65.1.Serial,r65.1.Show,r65.1.Place,r65.1.First,r65.1.Chain,r65.2.1,r65.2.2)
 ) fun (Serial58,Show59,Place60,First61,Chain62,gone63,q64) =>
 Option.bind (
 bif (io.eq e5 0) then (
 bif (io.eq a4 30001) then (
 bif (io.eq f9 16) then (
 bif (io.eq at12 30001) then (
 bif (io.eq g16 0) then (
 bif (io.eq h21 0) then (
 bif (io.eq b20 30002) then (
 bif (io.eq i29 0) then (
 bif (io.eq Place26 4) then (
 bif (io.eq l36 0) then (
 bif (io.eq m41 20) then (
 bif (io.eq n46 0) then (
 some (io.eq o50 27)
 ) else (
 some false
 )
 ) else (
 some false
 )
 ) else (
 some false
 )
 ) else (
 some false
 )
 ) else (
 some false
 )
 ) else (
 some false
 )
 ) else (
 some false
 )
 ) else (
 some false
 )
 ) else (
 some false
 )
 ) else (
 some false
 )
 ) else (
 some false
 )
 ) else (
 some false
 )
 ) fun one66 =>
 bif one66 then (
 bif (io.eq p55 0) then (
 bif (io.eq c54 30003) then (
 bif (io.eq q64 0) then (
 bif (io.eq gone63 100) then (
 Option.bind (title_Owner_g (Title.mk Serial58 Show59 Place60 First61 Chain62)) fun v67 =>
 Option.bind (digest_Sum_g (⟨#[109]⟩)) fun v68 =>
 bif (io.seq v67 v68) then (
 Option.bind (registry_Registry_Revoked_b 2 5 titles52 at53) fun r69 =>
 Option.bind (some [30001]) fun l70 =>
 Option.bind (ref11_Ints_g r69 l70) fun v71 =>
 bif v71 then (
 optN (registry_New_b 20 1) none (
 Option.bind (registry_Registry_Revoke_nil_g 1 1) fun v72 =>
 some (io.eq v72 1)
 )
 ) else (
 some false
 )
 ) else (
 some false
 )
 ) else (
 some false
 )
 ) else (
 some false
 )
 ) else (
 some false
 )
 ) else (
 some false
 )
 ) else (
 some false
 )
 )
 ) none
end Go.SX.Rg
namespace Go.SX.Rg
open Go Go.SX Go.Proofs
set_option maxRecDepth 100000
noncomputable def law32_RegistryOnes_l2 (l:(List Op))(r3:Int×Int×(List (Int×Entry))×(List (Int×Int)))(show_:Int):((List Int)×Bool×Int)→Option (((List Int)×Bool×Int) ⊕ (((List Int)×Bool) ⊕ (Bool)))
 | (at7,ended8,k9) =>
 bif (io.le k9 (io.ar .add .i64 (io.len (W eOp l)) 1)) then (
 orR (
 Option.bind (
 Option.bind (registry_Registry_Title_b r3.1 r3.2.1 r3.2.2.1 r3.2.2.2 (io.ar .add .i64 (io.ar .mul .i64 (io.ar .add .i64 (io.rem (io.wrap .i64 show_) 20) 1) 10000) k9)) fun r19 =>
 some (r19.1.Serial,r19.1.Show,r19.1.Place,r19.1.First,r19.1.Chain,r19.2.1,r19.2.2)
 ) fun (Serial12,Show13,Place14,First15,Chain16,gone17,e18) =>
 bif (io.not (io.eq e18 0)) then (
 some (.inl (at7,true))
 ) else (
 Option.bind (
 bif ended8 then (
 some true
 ) else (
 bif (io.not (io.eq Serial12 (io.ar .add .i64 (io.ar .mul .i64 (io.ar .add .i64 (io.rem (io.wrap .i64 show_) 20) 1) 10000) k9))) then (
 some true
 ) else (
 bif (io.not (io.eq Show13 (io.rem (io.wrap .i64 show_) 20))) then (
 some true
 ) else (
 bif (io.lt Place14 (-1)) then (
 some true
 ) else (
 bif (io.le 8 Place14) then (
 some true
 ) else (
 some (io.lt gone17 0)
 )
 )
 )
 )
 )
 ) fun v20 =>
 bif v20 then (
 some (.inr (.inr (.inr false)))
 ) else (
 Option.bind (
 bif (io.eq gone17 0) then (
 some (io.le 0 Place14)
 ) else (
 some false
 )
 ) fun v21 =>
 bif v21 then (
 Option.bind (rixG at7 Place14) fun i22 =>
 Option.bind (at7[i22]?) fun v23 =>
 bif (io.not (io.eq v23 0)) then (
 some (.inr (.inr (.inr false)))
 ) else (
 Option.bind (rixG at7 Place14) fun i24 =>
 Option.bind (updG at7 i24 fun y25=>Serial12) fun l26 =>
 some (.inl (l26,ended8))
 )
 ) else (
 some (.inl (at7,ended8))
 )
 )
 )
 ) fun (at10,ended11) =>
 some (.inl (at10,ended11,(io.ar .add .i64 k9 1)))
 ) else (
 some (.inr (.inl (at7,ended8)))
 )
noncomputable def law32_RegistryOnes_l4 (r3:Int×Int×(List (Int×Entry))×(List (Int×Int)))(at5:(List Int)):Int→Option ((Int) ⊕ ((Unit) ⊕ (Bool)))
 | p27 =>
 bif (io.lt p27 8) then (
 Option.bind (
 Option.bind (registry_Registry_At_b r3.1 r3.2.1 r3.2.2.1 r3.2.2.2 p27) fun r29 =>
 Option.bind (rixG at5 p27) fun i30 =>
 Option.bind (at5[i30]?) fun v31 =>
 some (io.not (io.eq r29 v31))
 ) fun v28 =>
 bif v28 then (
 some (.inr (.inr false))
 ) else (
 some (.inl (io.ar .add .i64 p27 1))
 )
 ) else (
 some (.inr (.inl ()))
 )
noncomputable def law32_RegistryOnes_g (show_:Int)(l:(List Op)):Option (Bool) :=
 Option.bind (law32_head_g) fun up1 =>
 Option.bind (law32_few_g l) fun v2 =>
 bif (io.not v2) then (
 some up1
 ) else (
 Option.bind (divG 20) fun _ =>
 Option.bind (law32_played_b show_ l) fun r3 =>
 Option.bind (mksG 8 (0:Int)) fun l4 =>
 orR (
 whileG (law32_RegistryOnes_l2 l r3 show_) (l4,false,1)
 ) fun (at5,ended6) =>
 orR (
 whileG (law32_RegistryOnes_l4 r3 at5) 0
 ) fun _ =>
 bif up1 then (
 bif ended6 then (
 Option.bind (registry_Registry_At_b r3.1 r3.2.1 r3.2.2.1 r3.2.2.2 (-1)) fun r32 =>
 bif (io.eq r32 0) then (
 Option.bind (registry_Registry_At_b r3.1 r3.2.1 r3.2.2.1 r3.2.2.2 8) fun r33 =>
 some (io.eq r33 0)
 ) else (
 some false
 )
 ) else (
 some false
 )
 ) else (
 some false
 )
 )
end Go.SX.Rg
namespace Go.SX.Rg
open Go Go.SX Go.Proofs
set_option maxRecDepth 100000
def c32r0 : List GOp:=[
 gv 3 (.box 35 (.tmp 0)),
 gv 6 (.alloc 35 (.agg #[oz,oz,oz,(.string ⟨#[]⟩),(.slice none 0 0)])),
 gv 7 (.mv (.const (.int .i64 0)))]
def c32r1 : List GOp:=[
 gv 9 (.load 5 true (.tmp 3)),
 gv 10 (.call 41 [(.tmp 9)]),
 gv 11 (.un .not (.tmp 10)),
 gv 12 (.mv (.tmp 11)),
 gw 13 12 false (.mv (.tmp 1)),
 gw 14 12 false (.call 57 [(.tmp 13)]),
 gw 15 12 false (.un .not (.tmp 14)),
 gv 16 (.pick (.tmp 12) (.const (.bool true)) (.tmp 15)),
 gv 8 (.mv (.tmp 16))]
def c32r2 : List GOp:=[
 gv 17 (.build (.agg #[oz,oz,oz,(.string ⟨#[]⟩),(.slice none 0 0)]) []),
 ⟨none,.store 5 (.tmp 6) (.tmp 17),none⟩,
 gv 7 (.mv (.const (.int .i64 1)))]
def c32r3 : List GOp:=[
 gv 19 (.fadd 4 (.tmp 3)),
 gv 20 (.load 1 false (.tmp 19)),
 gv 21 (.len false (.tmp 20)),
 gv 22 (.bin .eql (.tmp 21) (.const (.int .i64 50))),
 gv 18 (.mv (.tmp 22))]
def c32r4 : List GOp:=[
 gv 23 (.build (.agg #[oz,oz,oz,(.string ⟨#[]⟩),(.slice none 0 0)]) []),
 ⟨none,.store 5 (.tmp 6) (.tmp 23),none⟩,
 gv 7 (.mv (.const (.int .i64 3)))]
def c32r5 : List GOp:=[
 gv 25 (.load 5 true (.tmp 3)),
 gv 26 (.mv (.tmp 1)),
 gv 27 (.call 58 [(.tmp 25),(.tmp 26)]),
 gv 24 (.mv (.tmp 27))]
def c32r6 : List GOp:=[
 gv 28 (.build (.agg #[oz,oz,oz,(.string ⟨#[]⟩),(.slice none 0 0)]) []),
 ⟨none,.store 5 (.tmp 6) (.tmp 28),none⟩,
 gv 7 (.mv (.const (.int .i64 9)))]
def c32r7 : List GOp:=[
 gv 30 (.mv (.tmp 2)),
 gv 31 (.call 30 [(.tmp 30)]),
 gv 32 (.load 5 true (.tmp 3)),
 gv 33 (.call 35 [(.tmp 32)]),
 gv 34 (.bin .neq (.tmp 31) (.tmp 33)),
 gv 29 (.mv (.tmp 34))]
def c32r8 : List GOp:=[
 gv 35 (.build (.agg #[oz,oz,oz,(.string ⟨#[]⟩),(.slice none 0 0)]) []),
 ⟨none,.store 5 (.tmp 6) (.tmp 35),none⟩,
 gv 7 (.mv (.const (.int .i64 20)))]
def c32r9 : List GOp:=[
 gv 36 (.fadd 4 (.tmp 3)),
 gv 37 (.load 1 false (.tmp 36)),
 gv 38 (.call 59 [(.tmp 37)]),
 gv 39 (.mv (.tmp 1)),
 gv 40 (.mv (.tmp 2)),
 gv 41 (.load 5 true (.tmp 3)),
 gv 42 (.mv (.tmp 1)),
 gv 43 (.call 36 [(.tmp 41),(.tmp 42)]),
 gv 44 (.call 37 [(.tmp 40),(.tmp 43)])]
def c32r9z : List GOp:=[
 gv 45 (.build (.agg #[(.string ⟨#[]⟩),(.slice none 0 0)]) [((0,1),(.tmp 39)),((1,1),(.tmp 44))]),
 gv 46 (.bslice 46 2 1 (.agg #[(.string ⟨#[]⟩),(.slice none 0 0)]) [(0,(.tmp 45))]),
 gv 47 (.app 46 2 40 (.agg #[(.string ⟨#[]⟩),(.slice none 0 0)]) (.tmp 38) (.tmp 46)),
 gv 48 (.fadd 4 (.tmp 3)),
 ⟨none,.store 1 (.tmp 48) (.tmp 47),none⟩]
def c32r10 : List GOp:=[
 gv 49 (.load 5 true (.tmp 3)),
 ⟨none,.store 5 (.tmp 6) (.tmp 49),none⟩,
 gv 7 (.mv (.const (.int .i64 0)))]
def c32 : EFn:=⟨50,.seq (.reg c32r0) (.seq (.block 0 (.join (.reg c32r1) (.cond (.tmp 8) (.seq (.reg c32r2) (.ret)) (.seq (.reg c32r3) (.cond (.tmp 18) (.seq (.reg c32r4) (.ret)) (.seq (.reg c32r5) (.cond (.tmp 24) (.seq (.reg c32r6) (.ret)) (.seq (.par false false false true 3 c32r7) (.cond (.tmp 29) (.seq (.reg c32r8) (.ret)) (.skip)))))))))) (.seq (.eff false false false [2] c32r9 c32r9z) (.seq (.reg c32r10) (.ret)))),[.cell 6 5 true,.tmp 7]⟩
theorem c32_ok : compF Tryz.prog 32=some c32.er:=by kernel_rfl
set_option maxHeartbeats 4000000 in
theorem title_Pass_R {P:Program}(hP:P=Tryz.prog)(t_:Title)(to:ByteArray)(secret:ByteArray)(r:Title×Int)(h:title_Pass_g t_ to secret=some r):Fn1 P 32 [vTitle t_,vS to,vS secret] (.tup [vTitle r.1,vIi64 r.2]):=by
 refine .walkE2 (hP▸c32_ok) fun K hK=>?_;unfold title_Pass_g at h;cbv;refine .g h (fun (v1:Bool)=>[.top,.d (.val (.string to)),.d (.val (.string secret)),.ptr 0 0,.top,.top,.ptr 1 0,.top,ob v1]++rp 41 .top) (fun v1=>[.cells [oi t_.Serial,oi t_.Show,oi t_.Place,.d (.val (.string t_.First)),.d (.sl (W eTransfer t_.Chain))] 35,.cells [oi 0,oi 0,oi 0,.d (.val (.string (⟨#[]⟩))),.d (.val (.slice none 0 0))] 35]) (fun y hm Kn1 hKn1=>?_) fun t h=>?_
 ·have h:=hm;clear hm;cbv;refine .g h (fun v hv=>title_Valid_R hP _ v hv) aw_ rfl (fun _=>rfl) fun v2 h=>?_;cbv;refine brkG h ?_ ?_<;>intro h
  ·cbv;obtain rfl:=oj h;refine hKn1 _ _ _ rfl (.nz (.mtE [0,1] ?_));(cbv;repeat (refine⟨an_,?_⟩;cbv))
  ·cbv;refine .g h (fun v hv=>digest_Is_R hP _ v hv) aw_ rfl (fun _=>rfl) fun v3 h=>?_;cbv;obtain rfl:=oj h;refine hKn1 _ _ _ rfl (.nz (.mtE [0,1] ?_));(cbv;repeat (refine⟨an_,?_⟩;cbv))
 obtain⟨v1,rfl⟩:=ez t;cbv;refine brkG h ?_ ?_<;>intro h
 ·cbv;obtain rfl:=oj h;exact hK _ _ aw_
 ·cbv;refine brkG h ?_ ?_<;>intro h
  ·cbv;obtain rfl:=oj h;exact hK _ _ aw_
  ·cbv;refine .g h (fun v hv=>title_used_R hP _ _ v hv) aw_ rfl (fun _=>rfl) fun v4 h=>?_;cbv;refine brkG h ?_ ?_<;>intro h
   ·cbv;obtain rfl:=oj h;exact hK _ _ aw_
   ·cbv;refine .g h (fun v hv=>sign_Public_R hP _ v hv) aw_ rfl (fun _=>rfl) fun v5 h=>?_;cbv;refine .g h (fun v hv=>title_Owner_R hP _ v hv) aw_ rfl (fun _=>rfl) fun v6 h=>?_;cbv;refine brkG h ?_ ?_<;>intro h
    ·cbv;obtain rfl:=oj h;exact hK _ _ aw_
    ·cbv;refine .gx [] 2 ?_;cbv;obtain⟨l7,hm,h⟩:=Option.bind_eq_some_iff.1 h;refine .emb [] (slices_CloneW_O hP _ _ hm) (by (cbv;repeat (refine⟨an_,?_⟩;cbv))) ?_;clear hm;cbv;refine⟨.of (by (cbv;repeat (first | exact trivial | refine⟨by first | rfl | trivial,?_⟩))),?_⟩;cbv;refine .g h (fun v hv=>title_Message_R hP _ _ v hv) aw_ rfl (fun _=>rfl) fun v8 h=>?_;cbv;refine .g h (fun v hv=>sign_Sign_R hP _ _ v hv) aw_ rfl (fun _=>rfl) fun v9 h=>?_;cbv;refine .g (e:=eTransfer) h (W_cons aw_ (W_nil' _)) fun l10 h=>?_;cbv;refine .g h rfl (fun _=>rfl) (by decide) fun l11 h=>?_;cbv;obtain rfl:=oj h;exact hK _ _ aw_
end Go.SX.Rg
namespace Go.SX.Rg
open Go Go.SX Go.Proofs
set_option maxRecDepth 100000
noncomputable def law32_RegistryMoves_l2 (l:(List Op))(r4:Int×Int×(List (Int×Entry))×(List (Int×Int)))(titles13:(List (Int×Entry)))(at14:(List (Int×Int)))(show_:Int)(r5:Int×Int×(List (Int×Entry))×(List (Int×Int)))(which:Int)(place:Int):Int→Option ((Int) ⊕ ((Unit) ⊕ (Bool)))
 | k18 =>
 bif (io.le k18 (io.len (W eOp l))) then (
 Option.bind (
 Option.bind (registry_Registry_Title_b r4.1 r4.2.1 titles13 at14 (io.ar .add .i64 (io.ar .mul .i64 (io.ar .add .i64 (io.rem (io.wrap .i64 show_) 20) 1) 10000) k18)) fun r25 =>
 some (r25.1.Serial,r25.1.Show,r25.1.Place,r25.1.First,r25.1.Chain,r25.2.1)
 ) fun (Serial19,Show20,Place21,First22,Chain23,g24) =>
 Option.bind (
 Option.bind (registry_Registry_Title_b r5.1 r5.2.1 r5.2.2.1 r5.2.2.2 (io.ar .add .i64 (io.ar .mul .i64 (io.ar .add .i64 (io.rem (io.wrap .i64 show_) 20) 1) 10000) k18)) fun r32 =>
 some (r32.1.Serial,r32.1.Show,r32.1.Place,r32.1.First,r32.1.Chain,r32.2.1)
 ) fun (Serial26,Show27,Place28,First29,Chain30,h31) =>
 Option.bind (
 bif (io.eq Serial19 (io.ar .add .i64 (io.ar .add .i64 (io.ar .mul .i64 (io.ar .add .i64 (io.rem (io.wrap .i64 show_) 20) 1) 10000) 1) (io.rem (io.wrap .i64 which) (io.len (W eOp l))))) then (
 some place
 ) else (
 some Place28
 )
 ) fun Place33 =>
 Option.bind (
 bif (io.not (io.eq g24 h31)) then (
 some true
 ) else (
 Option.bind (ref30_Same_g (Title.mk Serial19 Show20 Place21 First22 Chain23) (Title.mk Serial26 Show27 Place33 First29 Chain30)) fun v35 =>
 some (io.not v35)
 )
 ) fun v34 =>
 bif v34 then (
 some (.inr (.inr false))
 ) else (
 some (.inl (io.ar .add .i64 k18 1))
 )
 ) else (
 some (.inr (.inl ()))
 )
noncomputable def law32_RegistryMoves_g (show_:Int)(l:(List Op))(which:Int)(place:Int):Option (Bool) :=
 Option.bind (law32_head_g) fun up1 =>
 Option.bind (
 Option.bind (law32_few_g l) fun v3 =>
 bif (io.not v3) then (
 some true
 ) else (
 some (io.eq (io.len (W eOp l)) 0)
 )
 ) fun v2 =>
 bif v2 then (
 some up1
 ) else (
 Option.bind (divG 20) fun _ =>
 Option.bind (law32_played_b show_ l) fun r4 =>
 Option.bind (law32_played_b show_ l) fun r5 =>
 Option.bind (divG (io.len (W eOp l))) fun _ =>
 Option.bind (
 Option.bind (registry_Registry_Title_b r4.1 r4.2.1 r4.2.2.1 r4.2.2.2 (io.ar .add .i64 (io.ar .add .i64 (io.ar .mul .i64 (io.ar .add .i64 (io.rem (io.wrap .i64 show_) 20) 1) 10000) 1) (io.rem (io.wrap .i64 which) (io.len (W eOp l))))) fun r12 =>
 some (r12.1.Serial,r12.1.Show,r12.1.Place,r12.1.First,r12.1.Chain,r12.2.2)
 ) fun (Serial6,Show7,Place8,First9,Chain10,e11) =>
 Option.bind (
 bif (io.not (io.eq e11 0)) then (
 some (r4.2.2.1,r4.2.2.2,true)
 ) else (
 Option.bind (registry_Registry_Move_b r4.1 r4.2.1 r4.2.2.1 r4.2.2.2 (io.ar .add .i64 (io.ar .add .i64 (io.ar .mul .i64 (io.ar .add .i64 (io.rem (io.wrap .i64 show_) 20) 1) 10000) 1) (io.rem (io.wrap .i64 which) (io.len (W eOp l)))) place) fun r16 =>
 some (r16.2.1,r16.2.2,(io.not (io.eq r16.1 0)))
 )
 ) fun (titles13,at14,v15) =>
 bif v15 then (
 bif up1 then (
 Option.bind (law32_same_b r4.1 r4.2.1 titles13 at14 r5.1 r5.2.1 r5.2.2.1 r5.2.2.2 (io.rem (io.wrap .i64 show_) 20) 8 (io.len (W eOp l))) fun r17 =>
 some r17
 ) else (
 some false
 )
 ) else (
 orR (
 whileG (law32_RegistryMoves_l2 l r4 titles13 at14 show_ r5 which place) 1
 ) fun _ =>
 Option.bind (
 bif (io.le 0 place) then (
 some (io.ar .add .i64 (io.ar .add .i64 (io.ar .mul .i64 (io.ar .add .i64 (io.rem (io.wrap .i64 show_) 20) 1) 10000) 1) (io.rem (io.wrap .i64 which) (io.len (W eOp l))))
 ) else (
 some 0
 )
 ) fun at36 =>
 bif up1 then (
 Option.bind (registry_Registry_At_b r4.1 r4.2.1 titles13 at14 place) fun r37 =>
 bif (io.eq r37 at36) then (
 Option.bind (registry_Registry_Move_b r4.1 r4.2.1 titles13 at14 (io.ar .add .i64 (io.ar .add .i64 (io.ar .mul .i64 (io.ar .add .i64 (io.rem (io.wrap .i64 show_) 20) 1) 10000) 1) (io.rem (io.wrap .i64 which) (io.len (W eOp l)))) Place8) fun r38 =>
 bif (io.eq r38.1 0) then (
 Option.bind (law32_same_b r4.1 r4.2.1 r38.2.1 r38.2.2 r5.1 r5.2.1 r5.2.2.1 r5.2.2.2 (io.rem (io.wrap .i64 show_) 20) 8 (io.len (W eOp l))) fun r39 =>
 some r39
 ) else (
 some false
 )
 ) else (
 some false
 )
 ) else (
 some false
 )
 )
 )
end Go.SX.Rg
namespace Go.SX.Rg
open Go Go.SX Go.Proofs
set_option maxRecDepth 100000
noncomputable def law32_RegistryRefuses_g (show_:Int)(l:(List Op))(x_:Op):Option (Bool) :=
 Option.bind (law32_head_g) fun up1 =>
 Option.bind (appH ([]:List Op) l) fun l2 =>
 Option.bind (some [x_]) fun l3 =>
 Option.bind (appH l2 l3) fun l4 =>
 Option.bind (law32_few_g l4) fun v5 =>
 bif (io.not v5) then (
 some up1
 ) else (
 Option.bind (divG 20) fun _ =>
 Option.bind (law32_played_b show_ l) fun r6 =>
 Option.bind (law32_played_b show_ l) fun r7 =>
 Option.bind (
 Option.bind (law32_secrets_g l) fun v11 =>
 Option.bind (law32_do_b r6.1 r6.2.1 r6.2.2.1 r6.2.2.2 x_ v11) fun r12 =>
 some (r12.2.2.1,r12.2.2.2,r12.2.1)
 ) fun (titles8,at9,e10) =>
 Option.bind (
 bif (io.not (io.eq e10 0)) then (
 Option.bind (law32_same_b r6.1 r6.2.1 titles8 at9 r7.1 r7.2.1 r7.2.2.1 r7.2.2.2 (io.rem (io.wrap .i64 show_) 20) 8 (io.ar .add .i64 (io.len (W eOp l)) 1)) fun r14 =>
 some (io.not r14)
 ) else (
 some false
 )
 ) fun v13 =>
 bif v13 then (
 some false
 ) else (
 Option.bind (
 bif (io.not (io.eq x_.Kind 0)) then (
 some true
 ) else (
 bif (io.lt x_.At 0) then (
 some true
 ) else (
 bif (io.le 8 x_.At) then (
 some true
 ) else (
 bif (io.not (io.seq x_.Key (⟨#[]⟩))) then (
 Option.bind (ref02_Is_g x_.Key) fun v16 =>
 some (io.not v16)
 ) else (
 some false
 )
 )
 )
 )
 ) fun v15 =>
 bif v15 then (
 bif up1 then (
 bif (io.not (io.eq x_.Kind 0)) then (
 some true
 ) else (
 some (io.eq e10 1)
 )
 ) else (
 some false
 )
 ) else (
 bif up1 then (
 Option.bind (registry_Registry_At_b r7.1 r7.2.1 r7.2.2.1 r7.2.2.2 x_.At) fun r17 =>
 bif (io.beq false (io.eq e10 16) (io.not (io.eq r17 0))) then (
 bif (io.eq e10 0) then (
 some true
 ) else (
 some (io.eq e10 16)
 )
 ) else (
 some false
 )
 ) else (
 some false
 )
 )
 )
 )
end Go.SX.Rg
