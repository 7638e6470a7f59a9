/- Parts of the proof. -/
import Derived.Test.YtlpempbeenpilaaGreatDoorZRgT
import Derived.Test.YtlpempbeenpilaaGreatDoorZRgH3
import Derived.Test.YtlpempbeenpilaaGreatDoorZRgH8
import Derived.Test.YtlpempbeenpilaaGreatDoorZRgH0
import Derived.Test.YtlpempbeenpilaaGreatDoorZRg46d
import Derived.Test.YtlpempbeenpilaaGreatDoorZRg44d
import Derived.Test.YtlpempbeenpilaaGreatDoorZRg53
set_option linter.unusedSimpArgs false
set_option linter.unusedVariables false
set_option linter.unusedSectionVars false
namespace Go.SX.Rg
open Go Go.SX Go.Proofs
set_option maxRecDepth 100000
noncomputable def sign_Public_g (secret:ByteArray):Option (ByteArray) :=
 Option.bind (sign_walk56_g secret) fun l1 =>
 Option.bind (digest_List_g l1) fun v2 =>
 some v2
end Go.SX.Rg
namespace Go.SX.Rg
open Go Go.SX Go.Proofs
set_option maxRecDepth 100000
noncomputable def title_Message_l2 (t_:Title):((List ByteArray)×Int)→Option (((List ByteArray)×Int) ⊕ ((List ByteArray)))
 | (l5,v6) =>
 bif (io.lt v6 (io.len (W eTransfer t_.Chain))) then (
 Option.bind (idxG t_.Chain v6) fun x7 =>
 Option.bind (some [x7.To]) fun l8 =>
 Option.bind (appG l5 l8) fun l9 =>
 some (.inl (l9,(io.ar .add .i64 v6 1)))
 ) else (
 some (.inr l5)
 )
noncomputable def title_Message_g (t_:Title)(to:ByteArray):Option (ByteArray) :=
 Option.bind (strconv_Itoa_g t_.Serial) fun v1 =>
 Option.bind (strconv_Itoa_g t_.Show) fun v2 =>
 Option.bind (some [v1,v2,t_.First]) fun l3 =>
 Option.bind (
 whileG (title_Message_l2 t_) (l3,0)
 ) fun l4 =>
 Option.bind (some [to]) fun l10 =>
 Option.bind (appG l4 l10) fun l11 =>
 Option.bind (digest_List_g l11) fun v12 =>
 some v12
end Go.SX.Rg
namespace Go.SX.Rg
open Go Go.SX Go.Proofs
set_option maxRecDepth 100000
noncomputable def sign_Sign_g (secret:ByteArray)(message:ByteArray):Option ((List ByteArray)) :=
 Option.bind (sign_digits_g message) fun v1 =>
 Option.bind (sign_walk69_g secret v1) fun l2 =>
 some l2
end Go.SX.Rg
namespace Go.SX.Rg
open Go Go.SX Go.Proofs
set_option maxRecDepth 100000
noncomputable def law32_transfer_l2 (known:(List ByteArray))(t_:Title)(to2:ByteArray):Int→Option ((Int) ⊕ ((Unit) ⊕ (Transfer)))
 | i3 =>
 bif (io.lt i3 (io.len (W eS known))) then (
 Option.bind (idxG known i3) fun x4 =>
 Option.bind (sign_Public_g x4) fun v5 =>
 Option.bind (title_Owner_g t_) fun v6 =>
 bif (io.seq v5 v6) then (
 Option.bind (idxG known i3) fun x7 =>
 Option.bind (title_Message_g t_ to2) fun v8 =>
 Option.bind (sign_Sign_g x7 v8) fun v9 =>
 some (.inr (.inr (Transfer.mk to2 v9)))
 ) else (
 some (.inl (io.ar .add .i64 i3 1))
 )
 ) else (
 some (.inr (.inl ()))
 )
noncomputable def law32_transfer_g (x_:Op)(t_:Title)(known:(List ByteArray)):Option (Transfer) :=
 bif (io.not (io.eq x_.Kind 4)) then (
 some (Transfer.mk x_.Key x_.Sig)
 ) else (
 Option.bind (law32_secret_g x_.Key) fun v1 =>
 Option.bind (sign_Public_g v1) fun to2 =>
 orR (
 whileG (law32_transfer_l2 known t_ to2) 0
 ) fun _ =>
 some (Transfer.mk to2 [])
 )
end Go.SX.Rg
namespace Go.SX.Rg
open Go Go.SX Go.Proofs
set_option maxRecDepth 100000
def c36r0 : List GOp:=[
 gv 2 (.box 35 (.tmp 0)),
 gv 4 (.mv (.const (.string ⟨#[]⟩)))]
def c36r1 : List GOp:=[
 gv 8 (.fadd 0 (.tmp 2)),
 gv 9 (.load 1 false (.tmp 8)),
 gv 10 (.call 67 [(.tmp 9)]),
 gv 11 (.fadd 1 (.tmp 2)),
 gv 12 (.load 1 false (.tmp 11)),
 gv 13 (.call 67 [(.tmp 12)]),
 gv 14 (.fadd 3 (.tmp 2)),
 gv 15 (.load 1 false (.tmp 14))]
def c36r1z : List GOp:=[
 gv 16 (.bslice 9 1 3 (.string ⟨#[]⟩) [(0,(.tmp 10)),(1,(.tmp 13)),(2,(.tmp 15))]),
 gv 5 (.mv (.tmp 16))]
def c36r2 : List GOp:=[
 gv 17 (.fadd 4 (.tmp 2)),
 gv 18 (.load 1 false (.tmp 17)),
 gv 19 (.len false (.tmp 18)),
 gv 20 (.mv (.const (.int .i64 0)))]
def c36r3 : List GOp:=[
 gv 21 (.bin .lss (.tmp 20) (.tmp 19))]
def c36r4 : List GOp:=[
 gv 22 (.idxA 2 (.tmp 18) (.tmp 20)),
 gv 23 (.load 2 true (.tmp 22)),
 gv 7 (.alloc 46 (.agg #[(.string ⟨#[]⟩),(.slice none 0 0)])),
 ⟨none,.store 2 (.tmp 7) (.tmp 23),none⟩]
def c36r5 : List GOp:=[
 gv 24 (.mv (.tmp 5)),
 gv 25 (.fadd 0 (.tmp 7)),
 gv 26 (.load 1 false (.tmp 25)),
 gv 27 (.bslice 9 1 1 (.string ⟨#[]⟩) [(0,(.tmp 26))]),
 gv 28 (.app 9 1 16 (.string ⟨#[]⟩) (.tmp 24) (.tmp 27)),
 gv 5 (.mv (.tmp 28))]
def c36r6 : List GOp:=[
 gv 29 (.bin .add (.tmp 20) (.const (.int .i64 1))),
 gv 20 (.mv (.tmp 29))]
def c36l7 : DE:=.seq (.reg c36r3) (.seq (.cond (.tmp 21) (.skip) (.exit 0)) (.seq (.block 1 (.seq (.reg c36r4) (.reg c36r5))) (.reg c36r6)))
def c36r8 : List GOp:=[
 gv 30 (.mv (.tmp 5)),
 gv 31 (.mv (.tmp 1)),
 gv 32 (.bslice 9 1 1 (.string ⟨#[]⟩) [(0,(.tmp 31))]),
 gv 33 (.app 9 1 16 (.string ⟨#[]⟩) (.tmp 30) (.tmp 32)),
 gv 34 (.call 54 [(.tmp 33)]),
 gv 4 (.mv (.tmp 34))]
def c36 : EFn:=⟨35,.seq (.reg c36r0) (.seq (.sfx false false false true c36r1 c36r1z) (.join (.seq (.reg c36r2) (.block 0 (.loop c36l7))) (.seq (.reg c36r8) (.ret)))),[.tmp 4]⟩
theorem c36_ok : compF Tryz.prog 36=some c36.er:=by kernel_rfl
set_option maxHeartbeats 4000000 in
theorem title_Message_R {P:Program}(hP:P=Tryz.prog)(t_:Title)(to:ByteArray)(r:ByteArray)(h:title_Message_g t_ to=some r):Fn1 P 36 [vTitle t_,vS to] (vS r):=by
 refine .walkE (hP▸c36_ok) fun K hK=>?_;unfold title_Message_g at h;cbv;refine .g h (fun v hv=>strconv_Itoa_R hP _ v hv) aw_ rfl (fun _=>rfl) fun v1 h=>?_;cbv;refine .g h (fun v hv=>strconv_Itoa_R hP _ v hv) aw_ rfl (fun _=>rfl) fun v2 h=>?_;cbv;refine .g (e:=eS) h (W_cons aw_ (W_cons aw_ (W_cons aw_ (W_nil' _)))) fun l3 h=>?_;cbv;refine .g h (fun (l4:(List ByteArray))=>[.top,.d (.val (.string to))]++rp 3 .top++[.hd 0]++rp 29 .top) (fun l4=>[.row 9 1 (W eS l4)]) (fun y hm Kn1 hKn1=>?_) fun t h=>?_
 ·have h:=hm;clear hm;cbv;refine .g h (fun ((l5,v6):(List ByteArray)×Int)=>[.top,.d (.val (.string to))]++rp 3 .top++[.hd 0]++rp 12 .top++[.d (.sl (W eTransfer t_.Chain)),oi (io.len (W eTransfer t_.Chain)),oi v6]++rp 14 .top) (fun (l5,v6)=>[.row 9 1 (W eS l5)]) (.nz (.mtE [1] ?_)) fun s x h hr2 Kn2 hKn2=>?_
  ·(cbv;repeat (refine⟨an_,?_⟩;cbv))
  unfold title_Message_l2 at h;obtain⟨l5,v6⟩:=s;cbv;refine brkG h ?_ ?_<;>intro h
  ·cbv;refine .g h (fun _=>rfl) fun x7 h=>?_;cbv;refine .g (e:=eS) h (W_cons aw_ (W_nil' _)) fun l8 h=>?_;cbv;refine .g h rfl (fun _=>rfl) (by decide) fun l9 h=>?_;cbv;obtain rfl:=oj h;refine hKn2 _ _ _ rfl (.nz (.mtE [3] ?_));(cbv;repeat (refine⟨an_,?_⟩;cbv))
  ·cbv;obtain rfl:=oj h;obtain rfl:=hr2 _ rfl;refine hKn1 _ _ _ rfl (.nz (.mtE [0] ?_));(cbv;repeat (refine⟨an_,?_⟩;cbv))
 obtain⟨l4,rfl⟩:=ez t;cbv;refine .g (e:=eS) h (W_cons aw_ (W_nil' _)) fun l10 h=>?_;cbv;refine .g h rfl (fun _=>rfl) (by decide) fun l11 h=>?_;cbv;refine .gl [] h (fun v hv=>digest_List_R hP _ v hv) aw_ rfl fun v12 h=>?_;cbv;obtain rfl:=oj h;exact hK _ _ aw_
end Go.SX.Rg
namespace Go.SX.Rg
open Go Go.SX Go.Proofs
set_option maxRecDepth 100000
noncomputable def sign_Verify_l2 (sig:(List ByteArray))(v1:(A18 Int)):((List ByteArray)×Int)→Option (((List ByteArray)×Int) ⊕ (((List ByteArray)) ⊕ (Bool)))
 | (ends3,v4) =>
 bif (io.lt v4 (io.len (W eS sig))) then (
 orR (
 Option.bind (idxG sig v4) fun x6 =>
 Option.bind (digest_Is_g x6) fun v7 =>
 bif (io.not v7) then (
 some (.inr (.inr (.inr false)))
 ) else (
 Option.bind (pixG 18 v4) fun ix8 =>
 Option.bind (digest_Chain_g x6 (io.ar .sub .i64 15 (v1.get ix8))) fun v9 =>
 Option.bind (some [v9]) fun l10 =>
 Option.bind (appG ends3 l10) fun ends11 =>
 some (.inl ends11)
 )
 ) fun ends5 =>
 some (.inl (ends5,(io.ar .add .i64 v4 1)))
 ) else (
 some (.inr (.inl ends3))
 )
noncomputable def sign_Verify_g (public_:ByteArray)(message:ByteArray)(sig:(List ByteArray)):Option (Bool) :=
 bif (io.not (io.eq (io.len (W eS sig)) 18)) then (
 some false
 ) else (
 Option.bind (sign_digits_g message) fun v1 =>
 orR (
 whileG (sign_Verify_l2 sig v1) ([],0)
 ) fun ends2 =>
 Option.bind (digest_List_g ends2) fun v12 =>
 some (io.seq v12 public_)
 )
end Go.SX.Rg
namespace Go.SX.Rg
open Go Go.SX Go.Proofs
set_option maxRecDepth 100000
def c74r0 : List GOp:=[
 gv 6 (.mv (.const (.bool false)))]
def c74r1 : List GOp:=[
 gv 11 (.mv (.tmp 2)),
 gv 12 (.len false (.tmp 11)),
 gv 13 (.bin .neq (.tmp 12) (.const (.int .i64 18)))]
def c74r2 : List GOp:=[
 gv 6 (.mv (.const (.bool false)))]
def c74r3 : List GOp:=[
 gv 14 (.mv (.tmp 1)),
 gv 15 (.call 68 [(.tmp 14)]),
 gv 7 (.alloc 96 (.agg #[oz,oz,oz,oz,oz,oz,oz,oz,oz,oz,oz,oz,oz,oz,oz,oz,oz,oz])),
 ⟨none,.store 18 (.tmp 7) (.tmp 15),none⟩]
def c74r4 : List GOp:=[
 gv 8 (.mv (.const (.slice none 0 0)))]
def c74r5 : List GOp:=[
 gv 16 (.mv (.tmp 2)),
 gv 17 (.len false (.tmp 16)),
 gv 18 (.mv (.const (.int .i64 0)))]
def c74r6 : List GOp:=[
 gv 19 (.bin .lss (.tmp 18) (.tmp 17))]
def c74r7 : List GOp:=[
 gv 20 (.mv (.tmp 18)),
 gv 21 (.idxA 1 (.tmp 16) (.tmp 18)),
 gv 22 (.load 1 false (.tmp 21)),
 gv 9 (.mv (.tmp 20)),
 gv 10 (.mv (.tmp 22))]
def c74r8 : List GOp:=[
 gv 23 (.mv (.tmp 10)),
 gv 24 (.call 57 [(.tmp 23)]),
 gv 25 (.un .not (.tmp 24))]
def c74r9 : List GOp:=[
 gv 6 (.mv (.const (.bool false)))]
def c74r10 : List GOp:=[
 gv 26 (.mv (.tmp 8)),
 gv 27 (.mv (.tmp 10)),
 gv 28 (.mv (.tmp 9)),
 gv 29 (.idxP 18 1 (.tmp 7) (.tmp 28)),
 gv 30 (.load 1 false (.tmp 29)),
 gv 31 (.bin .sub (.const (.int .i64 15)) (.tmp 30)),
 gv 32 (.call 96 [(.tmp 27),(.tmp 31)]),
 gv 33 (.bslice 9 1 1 (.string ⟨#[]⟩) [(0,(.tmp 32))]),
 gv 34 (.app 9 1 16 (.string ⟨#[]⟩) (.tmp 26) (.tmp 33)),
 gv 8 (.mv (.tmp 34))]
def c74r11 : List GOp:=[
 gv 35 (.bin .add (.tmp 18) (.const (.int .i64 1))),
 gv 18 (.mv (.tmp 35))]
def c74l12 : DE:=.seq (.reg c74r6) (.seq (.cond (.tmp 19) (.skip) (.exit 0)) (.join (.block 1 (.seq (.reg c74r7) (.seq (.seq (.reg c74r8) (.cond (.tmp 25) (.seq (.reg c74r9) (.ret)) (.skip))) (.reg c74r10)))) (.reg c74r11)))
def c74r13 : List GOp:=[
 gv 36 (.mv (.tmp 8)),
 gv 37 (.call 54 [(.tmp 36)]),
 gv 38 (.mv (.tmp 0)),
 gv 39 (.bin .eql (.tmp 37) (.tmp 38)),
 gv 6 (.mv (.tmp 39))]
def c74 : EFn:=⟨40,.seq (.reg c74r0) (.seq (.seq (.reg c74r1) (.cond (.tmp 13) (.seq (.reg c74r2) (.ret)) (.skip))) (.seq (.reg c74r3) (.seq (.reg c74r4) (.join (.seq (.reg c74r5) (.block 0 (.loop c74l12))) (.seq (.reg c74r13) (.ret)))))),[.tmp 6]⟩
theorem c74_ok : compF Tryz.prog 74=some c74.er:=by kernel_rfl
set_option maxHeartbeats 4000000 in
theorem sign_Verify_R {P:Program}(hP:P=Tryz.prog)(public_:ByteArray)(message:ByteArray)(sig:(List ByteArray))(r:Bool)(h:sign_Verify_g public_ message sig=some r):Fn1 P 74 [vS public_,vS message,vLS sig] (vB r):=by
 refine .walkE (hP▸c74_ok) fun K hK=>?_;unfold sign_Verify_g at h;cbv;refine brkG h ?_ ?_<;>intro h
 ·cbv;obtain rfl:=oj h;exact hK _ _ aw_
 ·cbv;refine .g h (fun v hv=>sign_digits_R hP _ v hv) aw_ rfl (fun _=>rfl) fun v1 h=>?_;cbv;refine .ga h (fun (ends2:(List ByteArray))=>[.d (.val (.string public_))]++rp 7 .top++[.hd 0]++rp 31 .top) (fun ends2=>[.row 9 1 (W eS ends2)]) (fun y hm hr1 Kn1 hKn1=>?_) fun t h=>?_
  ·have h:=hm;clear hm;cbv;refine .g h (fun ((ends3,v4):(List ByteArray)×Int)=>[.d (.val (.string public_))]++rp 6 .top++[.ptr 0 0,.hd 1]++rp 7 .top++[.d (.sl (W eS sig)),oi (io.len (W eS sig)),oi v4]++rp 21 .top) (fun (ends3,v4)=>[.cells [oi v1.a0,oi v1.a1,oi v1.a2,oi v1.a3,oi v1.a4,oi v1.a5,oi v1.a6,oi v1.a7,oi v1.a8,oi v1.a9,oi v1.a10,oi v1.a11,oi v1.a12,oi v1.a13,oi v1.a14,oi v1.a15,oi v1.a16,oi v1.a17] 96,.row 9 1 (W eS ends3)]) (.nilr 8 9 1 rfl (.nz (.mtE [0,1] ?_))) fun s x h hr2 Kn2 hKn2=>?_
   ·(cbv;repeat (refine⟨an_,?_⟩;cbv))
   unfold sign_Verify_l2 at h;obtain⟨ends3,v4⟩:=s;cbv;refine brkG h ?_ ?_<;>intro h
   ·cbv;refine .ga h (fun (ends5:(List ByteArray))=>[.d (.val (.string public_))]++rp 6 .top++[.ptr 0 0,.hd 1]++rp 7 .top++[.d (.sl (W eS sig)),oi (io.len (W eS sig)),oi v4]++rp 21 .top) (fun ends5=>[.cells [oi v1.a0,oi v1.a1,oi v1.a2,oi v1.a3,oi v1.a4,oi v1.a5,oi v1.a6,oi v1.a7,oi v1.a8,oi v1.a9,oi v1.a10,oi v1.a11,oi v1.a12,oi v1.a13,oi v1.a14,oi v1.a15,oi v1.a16,oi v1.a17] 96,.row 9 1 (W eS ends5)]) (fun y hm hr3 Kn3 hKn3=>?_) fun t h=>?_
    ·have h:=hm;clear hm;cbv;refine .g h (fun _=>rfl) fun x6 h=>?_;cbv;refine .g h (fun v hv=>digest_Is_R hP _ v hv) aw_ rfl (fun _=>rfl) fun v7 h=>?_;cbv;refine brkG h ?_ ?_<;>intro h
     ·cbv;obtain rfl:=oj h;obtain rfl:=hr3 _ rfl;obtain rfl:=hr2 _ rfl;obtain rfl:=hr1 _ rfl;exact hK _ _ aw_
     ·cbv
      refine .c18 h ?_ ?_ ?_ ?_ ?_ ?_ ?_ ?_ ?_ ?_ ?_ ?_ ?_ ?_ ?_ ?_ ?_ ?_<;>(
       intro hnix8 h;cbv;refine .g h (fun v hv=>digest_Chain_R hP _ _ v hv) aw_ rfl (fun _=>rfl) fun v9 h=>?_;cbv;refine .g (e:=eS) h (W_cons aw_ (W_nil' _)) fun l10 h=>?_;cbv;refine .g h rfl (fun _=>rfl) (by decide) fun ends11 h=>?_;cbv;obtain rfl:=oj h;refine hKn3 _ _ _ rfl (.nz (.mtE [0,3] ?_));(cbv;repeat (refine⟨an_,?_⟩;cbv))
       )
    obtain⟨ends5,rfl⟩:=ez t;cbv;obtain rfl:=oj h;refine hKn2 _ _ _ rfl (.nz (.mtE [0,1] ?_));(cbv;repeat (refine⟨an_,?_⟩;cbv))
   ·cbv;obtain rfl:=oj h;obtain rfl:=hr2 _ rfl;refine hKn1 _ _ _ rfl (.nz (.mtE [1] ?_));(cbv;repeat (refine⟨an_,?_⟩;cbv))
  obtain⟨ends2,rfl⟩:=ez t;cbv;refine .gl [] h (fun v hv=>digest_List_R hP _ v hv) aw_ rfl fun v12 h=>?_;cbv;obtain rfl:=oj h;exact hK _ _ aw_
end Go.SX.Rg
namespace Go.SX.Rg
open Go Go.SX Go.Proofs
set_option maxRecDepth 100000
def c30r0 : List GOp:=[
 gv 2 (.mv (.const (.string ⟨#[]⟩)))]
def c30r1 : List GOp:=[
 gv 3 (.mv (.tmp 0)),
 gv 4 (.call 55 [(.tmp 3),(.func 56)]),
 gv 5 (.call 54 [(.tmp 4)]),
 gv 2 (.mv (.tmp 5))]
def c30 : EFn:=⟨6,.seq (.reg c30r0) (.seq (.reg c30r1) (.ret)),[.tmp 2]⟩
theorem c30_ok : compF Tryz.prog 30=some c30.er:=by kernel_rfl
set_option maxHeartbeats 4000000 in
theorem sign_Public_R {P:Program}(hP:P=Tryz.prog)(secret:ByteArray)(r:ByteArray)(h:sign_Public_g secret=some r):Fn1 P 30 [vS secret] (vS r):=by
 refine .walkE (hP▸c30_ok) fun K hK=>?_;unfold sign_Public_g at h;cbv;obtain⟨l1,hm,h⟩:=Option.bind_eq_some_iff.1 h;refine .embL [] (sign_walk56_R hP _ _ hm) (by (cbv;repeat (refine⟨an_,?_⟩;cbv))) fun sv0 own0 hq _=>?_;obtain⟨rfl,rfl⟩:=hq;clear hm;cbv;refine .g h (fun v hv=>digest_List_R hP _ v hv) aw_ rfl (fun _=>rfl) fun v2 h=>?_;cbv;obtain rfl:=oj h;exact hK _ _ aw_
end Go.SX.Rg
namespace Go.SX.Rg
open Go Go.SX Go.Proofs
set_option maxRecDepth 100000
def c37r0 : List GOp:=[
 gv 4 (.mv (.const (.slice none 0 0)))]
def c37r1 : List GOp:=[
 gv 6 (.mv (.tmp 1)),
 gv 7 (.call 68 [(.tmp 6)]),
 gv 5 (.alloc 96 (.agg #[oz,oz,oz,oz,oz,oz,oz,oz,oz,oz,oz,oz,oz,oz,oz,oz,oz,oz])),
 ⟨none,.store 18 (.tmp 5) (.tmp 7),none⟩]
def c37r2 : List GOp:=[
 gv 8 (.mv (.tmp 0)),
 gv 9 (.mkfn (.func 69) [] [(.tmp 5)]),
 gv 10 (.call 55 [(.tmp 8),(.tmp 9)]),
 gv 4 (.mv (.tmp 10))]
def c37 : EFn:=⟨11,.seq (.reg c37r0) (.seq (.reg c37r1) (.seq (.reg c37r2) (.ret))),[.tmp 4]⟩
theorem c37_ok : compF Tryz.prog 37=some c37.er:=by kernel_rfl
set_option maxHeartbeats 4000000 in
theorem sign_Sign_R {P:Program}(hP:P=Tryz.prog)(secret:ByteArray)(message:ByteArray)(r:(List ByteArray))(h:sign_Sign_g secret message=some r):Fn1 P 37 [vS secret,vS message] (vLS r):=by
 refine .walkE (hP▸c37_ok) fun K hK=>?_;unfold sign_Sign_g at h;cbv;refine .g h (fun v hv=>sign_digits_R hP _ v hv) aw_ rfl (fun _=>rfl) fun v1 h=>?_;cbv;obtain⟨l2,hm,h⟩:=Option.bind_eq_some_iff.1 h;refine .embLP [0] [] (sign_walk69_R hP _ _ _ hm) (by (cbv;repeat (refine⟨an_,?_⟩;cbv))) fun sv0 own0 hq _=>?_;obtain⟨rfl,rfl⟩:=hq;clear hm;cbv;obtain rfl:=oj h;exact hK _ _ aw_
end Go.SX.Rg
namespace Go.SX.Rg
open Go Go.SX Go.Proofs
set_option maxRecDepth 100000
def c21r0 : List GOp:=[
 gv 3 (.box 32 (.tmp 0)),
 gv 4 (.box 35 (.tmp 1)),
 gv 6 (.alloc 46 (.agg #[(.string ⟨#[]⟩),(.slice none 0 0)]))]
def c21r1 : List GOp:=[
 gv 9 (.fadd 0 (.tmp 3)),
 gv 10 (.load 1 false (.tmp 9)),
 gv 11 (.bin .neq (.tmp 10) (.const (.int .i64 4)))]
def c21r2 : List GOp:=[
 gv 12 (.fadd 3 (.tmp 3)),
 gv 13 (.load 1 false (.tmp 12)),
 gv 14 (.fadd 4 (.tmp 3)),
 gv 15 (.load 1 false (.tmp 14)),
 gv 16 (.build (.agg #[(.string ⟨#[]⟩),(.slice none 0 0)]) [((0,1),(.tmp 13)),((1,1),(.tmp 15))]),
 ⟨none,.store 2 (.tmp 6) (.tmp 16),none⟩]
def c21r3 : List GOp:=[
 gv 17 (.fadd 3 (.tmp 3)),
 gv 18 (.load 1 false (.tmp 17)),
 gv 19 (.call 31 [(.tmp 18)]),
 gv 20 (.call 30 [(.tmp 19)]),
 gv 7 (.mv (.tmp 20))]
def c21r4 : List GOp:=[
 gv 8 (.mv (.const (.int .i64 0)))]
def c21r5 : List GOp:=[
 gv 21 (.mv (.tmp 8)),
 gv 22 (.mv (.tmp 2)),
 gv 23 (.len false (.tmp 22)),
 gv 24 (.bin .lss (.tmp 21) (.tmp 23))]
def c21r6 : List GOp:=[
 gv 27 (.mv (.tmp 2)),
 gv 28 (.mv (.tmp 8)),
 gv 29 (.idxA 1 (.tmp 27) (.tmp 28)),
 gv 30 (.load 1 false (.tmp 29)),
 gv 31 (.call 30 [(.tmp 30)]),
 gv 32 (.load 5 true (.tmp 4)),
 gv 33 (.call 35 [(.tmp 32)]),
 gv 34 (.bin .eql (.tmp 31) (.tmp 33))]
def c21r7 : List GOp:=[
 gv 35 (.mv (.tmp 7)),
 gv 36 (.mv (.tmp 2)),
 gv 37 (.mv (.tmp 8)),
 gv 38 (.idxA 1 (.tmp 36) (.tmp 37)),
 gv 39 (.load 1 false (.tmp 38)),
 gv 40 (.load 5 true (.tmp 4)),
 gv 41 (.mv (.tmp 7)),
 gv 42 (.call 36 [(.tmp 40),(.tmp 41)]),
 gv 43 (.call 37 [(.tmp 39),(.tmp 42)])]
def c21r7z : List GOp:=[
 gv 44 (.build (.agg #[(.string ⟨#[]⟩),(.slice none 0 0)]) [((0,1),(.tmp 35)),((1,1),(.tmp 43))]),
 ⟨none,.store 2 (.tmp 6) (.tmp 44),none⟩]
def c21r8 : List GOp:=[
 gv 25 (.mv (.tmp 8)),
 gv 26 (.bin .add (.tmp 25) (.const (.int .i64 1))),
 gv 8 (.mv (.tmp 26))]
def c21l9 : DE:=.seq (.seq (.reg c21r5) (.cond (.tmp 24) (.skip) (.exit 0))) (.seq (.block 1 (.seq (.par false false false true 6 c21r6) (.cond (.tmp 34) (.seq (.sfx false false false true c21r7 c21r7z) (.ret)) (.skip)))) (.reg c21r8))
def c21r10 : List GOp:=[
 gv 45 (.mv (.tmp 7)),
 gv 46 (.build (.agg #[(.string ⟨#[]⟩),(.slice none 0 0)]) [((0,1),(.tmp 45))]),
 ⟨none,.store 2 (.tmp 6) (.tmp 46),none⟩]
def c21 : EFn:=⟨47,.seq (.reg c21r0) (.seq (.seq (.reg c21r1) (.cond (.tmp 11) (.seq (.reg c21r2) (.ret)) (.skip))) (.seq (.reg c21r3) (.join (.seq (.reg c21r4) (.block 0 (.loop c21l9))) (.seq (.reg c21r10) (.ret))))),[.cell 6 2 true]⟩
theorem c21_ok : compF Tryz.prog 21=some c21.er:=by kernel_rfl
set_option maxHeartbeats 4000000 in
theorem law32_transfer_R {P:Program}(hP:P=Tryz.prog)(x_:Op)(t_:Title)(known:(List ByteArray))(r:Transfer)(h:law32_transfer_g x_ t_ known=some r):Fn1 P 21 [vOp x_,vTitle t_,vLS known] (vTransfer r):=by
 refine .walkE (hP▸c21_ok) fun K hK=>?_;unfold law32_transfer_g at h;cbv;refine brkG h ?_ ?_<;>intro h
 ·cbv;obtain rfl:=oj h;exact hK _ _ aw_
 ·cbv;refine .g h (fun v hv=>law32_secret_R hP _ v hv) aw_ rfl (fun _=>rfl) fun v1 h=>?_;cbv;refine .g h (fun v hv=>sign_Public_R hP _ v hv) aw_ rfl (fun _=>rfl) fun to2 h=>?_;cbv;refine .ga h (fun (_:Unit)=>rp 6 .top++[.ptr 0 0,.d (.val (.string to2))]++rp 39 .top) (fun _=>[.cells [.d (.val (.string (⟨#[]⟩))),.d (.val (.slice none 0 0))] 46]) (fun y hm hr1 Kn1 hKn1=>?_) fun t h=>?_
  ·have h:=hm;clear hm;cbv;refine .g h (fun (i3:Int)=>[.top,.top,.d (.sl (W eS known)),.top,.ptr 0 0,.top,.ptr 1 0,.d (.val (.string to2)),oi i3]++rp 38 .top) (fun i3=>[.cells [oi t_.Serial,oi t_.Show,oi t_.Place,.d (.val (.string t_.First)),.d (.sl (W eTransfer t_.Chain))] 35,.cells [.d (.val (.string (⟨#[]⟩))),.d (.val (.slice none 0 0))] 46]) (.nz (.mtE [1,2] ?_)) fun s x h hr2 Kn2 hKn2=>?_
   ·(cbv;repeat (refine⟨an_,?_⟩;cbv))
   unfold law32_transfer_l2 at h;obtain⟨i3,rfl⟩:=ez s;cbv;refine brkG h ?_ ?_<;>intro h
   ·cbv;refine .g h (fun _=>rfl) fun x4 h=>?_;cbv;refine .g h (fun v hv=>sign_Public_R hP _ v hv) aw_ rfl (fun _=>rfl) fun v5 h=>?_;cbv;refine .g h (fun v hv=>title_Owner_R hP _ v hv) aw_ rfl (fun _=>rfl) fun v6 h=>?_;cbv;refine brkG h ?_ ?_<;>intro h
    ·cbv;refine .g h (fun _=>rfl) fun x7 h=>?_;cbv;refine .g h (fun v hv=>title_Message_R hP _ _ v hv) aw_ rfl (fun _=>rfl) fun v8 h=>?_;cbv;refine .g h (fun v hv=>sign_Sign_R hP _ _ v hv) aw_ rfl (fun _=>rfl) fun v9 h=>?_;cbv;obtain rfl:=oj h;obtain rfl:=hr2 _ rfl;obtain rfl:=hr1 _ rfl;exact hK _ _ aw_
    ·cbv;obtain rfl:=oj h;refine hKn2 _ _ _ rfl (.nz (.mtE [0,1] ?_));(cbv;repeat (refine⟨an_,?_⟩;cbv))
   ·cbv;obtain rfl:=oj h;obtain rfl:=hr2 _ rfl;refine hKn1 _ _ _ rfl (.nz (.mtE [1] ?_));(cbv;repeat (refine⟨an_,?_⟩;cbv))
  cbv;obtain rfl:=oj h;exact hK _ _ aw_
end Go.SX.Rg
namespace Go.SX.Rg
open Go Go.SX Go.Proofs
set_option maxRecDepth 100000
noncomputable def registry_Registry_Revoked_l2 (l2:(List Int))(titles0:(List (Int×Entry))):((List Int)×Int)→Option (((List Int)×Int) ⊕ ((List Int)))
 | (out3,v4) =>
 bif (io.lt v4 (io.len (W eIi64 l2))) then (
 Option.bind (
 Option.bind (rixG l2 v4) fun i6 =>
 Option.bind (l2[i6]?) fun v7 =>
 optG (mlook titles0 v7) (fun y8 =>
 bif (io.lt 0 y8.gone) then (
 Option.bind (some [v7]) fun l9 =>
 Option.bind (appG out3 l9) fun out10 =>
 some out10
 ) else (
 some out3
 )
 ) (
 bif (io.lt 0 0) then (
 Option.bind (some [v7]) fun l11 =>
 Option.bind (appG out3 l11) fun out12 =>
 some out12
 ) else (
 some out3
 )
 )
 ) fun out5 =>
 some (.inl (out5,(io.ar .add .i64 v4 1)))
 ) else (
 some (.inr out3)
 )
noncomputable def registry_Registry_Revoked_b (show0:Int)(places0:Int)(titles0:(List (Int×Entry)))(at0:(List (Int×Int))):Option ((List Int)) :=
 Option.bind (
 Option.bind (sortedKeys_g titles0) fun l2 =>
 whileG (registry_Registry_Revoked_l2 l2 titles0) ([],0)
 ) fun out1 =>
 some out1
end Go.SX.Rg
namespace Go.SX.Rg
open Go Go.SX Go.Proofs
set_option maxRecDepth 100000
def c52r0 : List GOp:=[
 gv 1 (.box 71 (.tmp 0)),
 gv 2 (.mv (.const .nilFunc))]
def c52r1 : List GOp:=[
 gv 3 (.mkfn (.func 91) [] [(.tmp 1)]),
 gv 2 (.mv (.tmp 3))]
def c52 : EFn:=⟨4,.seq (.reg c52r0) (.seq (.reg c52r1) (.ret)),[.tmp 2]⟩
theorem c52_ok : compF Tryz.prog 52=some c52.er:=by kernel_rfl
def c23r0 : List GOp:=[
 gv 2 (.mv (.const (.slice none 0 0)))]
def c23r1 : List GOp:=[
 gv 6 (.mv (.tmp 0)),
 gv 7 (.pnil false (.tmp 6))]
def c23r2 : List GOp:=[
 gv 2 (.mv (.const (.slice none 0 0)))]
def c23r3 : List GOp:=[
 gv 3 (.mv (.const (.slice none 0 0)))]
def c23r4 : List GOp:=[
 gv 8 (.mv (.tmp 0)),
 gv 9 (.nilck (.tmp 8)),
 gv 10 (.fadd 2 (.tmp 9)),
 gv 11 (.load 1 false (.tmp 10)),
 gv 12 (.call 52 [(.tmp 11)]),
 gv 13 (.call 51 [(.tmp 12)]),
 gv 14 (.len false (.tmp 13)),
 gv 15 (.mv (.const (.int .i64 0)))]
def c23r5 : List GOp:=[
 gv 16 (.bin .lss (.tmp 15) (.tmp 14))]
def c23r6 : List GOp:=[
 gv 17 (.idxA 1 (.tmp 13) (.tmp 15)),
 gv 18 (.load 1 false (.tmp 17)),
 gv 5 (.mv (.tmp 18))]
def c23r7 : List GOp:=[
 gv 19 (.mv (.tmp 0)),
 gv 20 (.nilck (.tmp 19)),
 gv 21 (.fadd 2 (.tmp 20)),
 gv 22 (.load 1 false (.tmp 21)),
 gv 23 (.mv (.tmp 5)),
 gv 24 (.mget (.int .i64) true false (.agg #[oz,oz,oz,(.string ⟨#[]⟩),(.slice none 0 0),oz]) (.tmp 22) (.tmp 23)),
 gv 25 (.fld 5 1 false (.tmp 24)),
 gv 26 (.bin .gtr (.tmp 25) (.const (.int .i64 0)))]
def c23r8 : List GOp:=[
 gv 27 (.mv (.tmp 3)),
 gv 28 (.mv (.tmp 5)),
 gv 29 (.bslice 3 1 1 oz [(0,(.tmp 28))]),
 gv 30 (.app 3 1 8 oz (.tmp 27) (.tmp 29)),
 gv 3 (.mv (.tmp 30))]
def c23r9 : List GOp:=[
 gv 31 (.bin .add (.tmp 15) (.const (.int .i64 1))),
 gv 15 (.mv (.tmp 31))]
def c23l10 : DE:=.seq (.reg c23r5) (.seq (.cond (.tmp 16) (.skip) (.exit 0)) (.join (.block 1 (.seq (.reg c23r6) (.seq (.reg c23r7) (.cond (.tmp 26) (.reg c23r8) (.skip))))) (.reg c23r9)))
def c23r11 : List GOp:=[
 gv 32 (.mv (.tmp 3)),
 gv 2 (.mv (.tmp 32))]
def c23 : EFn:=⟨33,.seq (.reg c23r0) (.seq (.seq (.reg c23r1) (.cond (.tmp 7) (.seq (.reg c23r2) (.ret)) (.skip))) (.seq (.reg c23r3) (.join (.seq (.reg c23r4) (.block 0 (.loop c23l10))) (.seq (.reg c23r11) (.ret))))),[.tmp 2]⟩
theorem c23_ok : compF Tryz.prog 23=some c23.er:=by kernel_rfl
set_option maxHeartbeats 8000000 in
theorem registry_Registry_Revoked_R {P:Program}(hP:P=Tryz.prog)(show0:Int)(places0:Int)(titles0:(List (Int×Entry)))(at0:(List (Int×Int)))(r:(List Int))(h:registry_Registry_Revoked_b show0 places0 titles0 at0=some r):SCall P 23 [.cells [oi show0,oi places0,.hd 1,.hd 2] 74,.mp (.int .i64) true (WM (Value.int .i64) eEntry titles0),.mp (.int .i64) false (WM (Value.int .i64) eIi64 at0)] [.ptr 0 0] (fun sv own'=>sv=.d (.sl (W eIi64 r))∧own'=[.cells [oi show0,oi places0,.hd 1,.hd 2] 74,.mp (.int .i64) true (WM (Value.int .i64) eEntry titles0),.mp (.int .i64) false (WM (Value.int .i64) eIi64 at0)]):=by
 refine .walkF 3 rfl (Nat.le_of_ble_eq_true rfl) (hP▸c23_ok) fun K hK=>?_;unfold registry_Registry_Revoked_b at h;cbv;refine .g h (fun (out1:(List Int))=>rp 3 .top++[.hd 3]++rp 29 .top) (fun out1=>[.cells [oi show0,oi places0,.hd 1,.hd 2] 74,.mp (.int .i64) true (WM (Value.int .i64) eEntry titles0),.mp (.int .i64) false (WM (Value.int .i64) eIi64 at0),.row 3 1 (W eIi64 out1)]) (fun y hm Kn1 hKn1=>?_) fun t h=>?_
 ·have h:=hm;clear hm;cbv;refine .inl (hP▸c52_ok) ?_;cbv;obtain⟨l2,hm,h⟩:=Option.bind_eq_some_iff.1 h;refine .emb [1,3] (sortedKeys_O hP _ _ hm) (by (cbv;repeat (refine⟨an_,?_⟩;cbv))) fun sv0 own0 hq _=>?_;obtain⟨rfl,rfl⟩:=hq;clear hm;cbv;refine .g h (fun ((out3,v4):(List Int)×Int)=>[.ptr 0 0,.top,.top,.hd 3]++rp 9 .top++[.hd 4,oi (io.len (W eIi64 l2)),oi v4]++rp 17 .top) (fun (out3,v4)=>[.cells [oi show0,oi places0,.hd 1,.hd 2] 74,.mp (.int .i64) true (WM (Value.int .i64) eEntry titles0),.mp (.int .i64) false (WM (Value.int .i64) eIi64 at0),.row 3 1 (W eIi64 out3),.row 3 1 (W eIi64 l2)]) (.nilr 3 3 1 rfl (.nz (.mtE [0,1,2,5,4] ?_))) fun s x h hr2 Kn2 hKn2=>?_
  ·(cbv;repeat (refine⟨an_,?_⟩;cbv))
  unfold registry_Registry_Revoked_l2 at h;obtain⟨out3,v4⟩:=s;cbv;refine brkG h ?_ ?_<;>intro h
  ·cbv;refine .g h (fun (out5:(List Int))=>[.ptr 0 0,.top,.top,.hd 3]++rp 9 .top++[.hd 4,oi (io.len (W eIi64 l2)),oi v4]++rp 17 .top) (fun out5=>[.cells [oi show0,oi places0,.hd 1,.hd 2] 74,.mp (.int .i64) true (WM (Value.int .i64) eEntry titles0),.mp (.int .i64) false (WM (Value.int .i64) eIi64 at0),.row 3 1 (W eIi64 out5),.row 3 1 (W eIi64 l2)]) (fun y hm Kn3 hKn3=>?_) fun t h=>?_
   ·have h:=hm;clear hm;cbv;refine .g h fun i6 h=>?_;cbv;refine .g h fun v7 h=>?_;cbv;refine .oi (e:=eEntry) h (by first | rfl | exact WM_nil' _ _) (fun y8 h=>?_) (fun h=>?_)
    ·cbv;refine brkG h ?_ ?_<;>intro h
     ·cbv;refine .g (e:=eIi64) h (W_cons aw_ (W_nil' _)) fun l9 h=>?_;cbv;refine .g h rfl (fun _=>rfl) (by decide) fun out10 h=>?_;cbv;obtain rfl:=oj h;refine hKn3 _ _ _ rfl (.nz (.mtE [0,1,2,6,4] ?_));(cbv;repeat (refine⟨an_,?_⟩;cbv))
     ·cbv;obtain rfl:=oj h;refine hKn3 _ _ _ rfl (.nz (.mtE [0,1,2,3,4] ?_));(cbv;repeat (refine⟨an_,?_⟩;cbv))
    ·cbv;refine brkG h ?_ ?_<;>intro h
     ·cbv;refine .g (e:=eIi64) h (W_cons aw_ (W_nil' _)) fun l11 h=>?_;cbv;refine .g h rfl (fun _=>rfl) (by decide) fun out12 h=>?_;cbv;obtain rfl:=oj h;refine hKn3 _ _ _ rfl (.nz (.mtE [0,1,2,6,4] ?_));(cbv;repeat (refine⟨an_,?_⟩;cbv))
     ·cbv;obtain rfl:=oj h;refine hKn3 _ _ _ rfl (.nz (.mtE [0,1,2,3,4] ?_));(cbv;repeat (refine⟨an_,?_⟩;cbv))
   obtain⟨out5,rfl⟩:=ez t;cbv;obtain rfl:=oj h;refine hKn2 _ _ _ rfl (.nz (.mtE [0,1,2,3,4] ?_));(cbv;repeat (refine⟨an_,?_⟩;cbv))
  ·cbv;obtain rfl:=oj h;obtain rfl:=hr2 _ rfl;refine hKn1 _ _ _ rfl (.nz (.mtE [0,1,2,3] ?_));(cbv;repeat (refine⟨an_,?_⟩;cbv))
 obtain⟨out1,rfl⟩:=ez t;cbv;obtain rfl:=oj h;refine hK _ _ [.hd 3] [0,1,2] ?_;(cbv;repeat (refine⟨an_,?_⟩;cbv))
end Go.SX.Rg
namespace Go.SX.Rg
open Go Go.SX Go.Proofs
set_option maxRecDepth 100000
end Go.SX.Rg
namespace Go.SX.Rg
open Go Go.SX Go.Proofs
set_option maxRecDepth 100000
end Go.SX.Rg
namespace Go.SX.Rg
open Go Go.SX Go.Proofs
set_option maxRecDepth 100000
end Go.SX.Rg
namespace Go.SX.Rg
open Go Go.SX Go.Proofs
set_option maxRecDepth 100000
end Go.SX.Rg
namespace Go.SX.Rg
open Go Go.SX Go.Proofs
set_option maxRecDepth 100000
end Go.SX.Rg
namespace Go.SX.Rg
open Go Go.SX Go.Proofs
set_option maxRecDepth 100000
end Go.SX.Rg
