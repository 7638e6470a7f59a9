/- Parts of the proof. -/
import Derived.Test.YtlpempbeenpilaaGreatDoorZRgT
import Derived.Test.YtlpempbeenpilaaGreatDoorZRgH3
import Derived.Test.YtlpempbeenpilaaGreatDoorZRgH8
import Derived.Test.YtlpempbeenpilaaGreatDoorZRgH0
import Derived.Test.YtlpempbeenpilaaGreatDoorZRg46d
import Derived.Test.YtlpempbeenpilaaGreatDoorZRg44d
import Derived.Test.YtlpempbeenpilaaGreatDoorZRg17d
import Derived.Test.YtlpempbeenpilaaGreatDoorZRg65
set_option linter.unusedSimpArgs false
set_option linter.unusedVariables false
set_option linter.unusedSectionVars false
namespace Go.SX.Rg
open Go Go.SX Go.Proofs
set_option maxRecDepth 100000
noncomputable def sign_Public_g (secret:ByteArray):Option (ByteArray) :=
 Option.bind (sign_walk56_g secret) fun l1 =>
 Option.bind (digest_List_g l1) fun v2 =>
 some v2
end Go.SX.Rg
namespace Go.SX.Rg
open Go Go.SX Go.Proofs
set_option maxRecDepth 100000
noncomputable def title_Message_l2 (t_:Title):((List ByteArray)×Int)→Option (((List ByteArray)×Int) ⊕ ((List ByteArray)))
 | (l5,v6) =>
 bif (io.lt v6 (io.len (W eTransfer t_.Chain))) then (
 Option.bind (idxG t_.Chain v6) fun x7 =>
 Option.bind (some [x7.To]) fun l8 =>
 Option.bind (appG l5 l8) fun l9 =>
 some (.inl (l9,(io.ar .add .i64 v6 1)))
 ) else (
 some (.inr l5)
 )
noncomputable def title_Message_g (t_:Title)(to:ByteArray):Option (ByteArray) :=
 Option.bind (strconv_Itoa_g t_.Serial) fun v1 =>
 Option.bind (strconv_Itoa_g t_.Show) fun v2 =>
 Option.bind (some [v1,v2,t_.First]) fun l3 =>
 Option.bind (
 whileG (title_Message_l2 t_) (l3,0)
 ) fun l4 =>
 Option.bind (some [to]) fun l10 =>
 Option.bind (appG l4 l10) fun l11 =>
 Option.bind (digest_List_g l11) fun v12 =>
 some v12
end Go.SX.Rg
namespace Go.SX.Rg
open Go Go.SX Go.Proofs
set_option maxRecDepth 100000
noncomputable def sign_Sign_g (secret:ByteArray)(message:ByteArray):Option ((List ByteArray)) :=
 Option.bind (sign_digits_g message) fun v1 =>
 Option.bind (sign_walk69_g secret v1) fun l2 =>
 some l2
end Go.SX.Rg
namespace Go.SX.Rg
open Go Go.SX Go.Proofs
set_option maxRecDepth 100000
noncomputable def law32_transfer_l2 (known:(List ByteArray))(t_:Title)(to2:ByteArray):Int→Option ((Int) ⊕ ((Unit) ⊕ (Transfer)))
 | i3 =>
 bif (io.lt i3 (io.len (W eS known))) then (
 Option.bind (idxG known i3) fun x4 =>
 Option.bind (sign_Public_g x4) fun v5 =>
 Option.bind (title_Owner_g t_) fun v6 =>
 bif (io.seq v5 v6) then (
 Option.bind (idxG known i3) fun x7 =>
 Option.bind (title_Message_g t_ to2) fun v8 =>
 Option.bind (sign_Sign_g x7 v8) fun v9 =>
 some (.inr (.inr (Transfer.mk to2 v9)))
 ) else (
 some (.inl (io.ar .add .i64 i3 1))
 )
 ) else (
 some (.inr (.inl ()))
 )
noncomputable def law32_transfer_g (x_:Op)(t_:Title)(known:(List ByteArray)):Option (Transfer) :=
 bif (io.not (io.eq x_.Kind 4)) then (
 some (Transfer.mk x_.Key x_.Sig)
 ) else (
 Option.bind (law32_secret_g x_.Key) fun v1 =>
 Option.bind (sign_Public_g v1) fun to2 =>
 orR (
 whileG (law32_transfer_l2 known t_ to2) 0
 ) fun _ =>
 some (Transfer.mk to2 [])
 )
end Go.SX.Rg
namespace Go.SX.Rg
open Go Go.SX Go.Proofs
set_option maxRecDepth 100000
def c36r0 : List GOp:=gS 2 [.box 35 0]++gS 4 [.mv (.const (.string ⟨#[]⟩))]
def c36r1 : List GOp:=gS 8 [.fadd 0 2,.load 1 false 8,.call 67 [9],.fadd 1 2,.load 1 false 11,.call 67 [12],.fadd 3 2,.load 1 false 14]
def c36r1z : List GOp:=gS 16 [.bslice 9 1 3 (.string ⟨#[]⟩) [(0,10),(1,13),(2,15)]]++gS 5 [.mv 16]
def c36r2 : List GOp:=gS 17 [.fadd 4 2,.load 1 false 17,.len false 18,.mv (ci 0)]
def c36r3 : List GOp:=gS 21 [.bin .lss 20 19]
def c36r4 : List GOp:=gS 22 [.idxA 2 18 20,.load 2 true 22]++gS 7 [.alloc 46 (.agg #[(.string ⟨#[]⟩),(.slice none 0 0)])]++[⟨none,.store 2 7 23,none⟩]
def c36r5 : List GOp:=gS 24 [.mv 5,.fadd 0 7,.load 1 false 25,.bslice 9 1 1 (.string ⟨#[]⟩) [(0,26)],.app 9 1 16 (.string ⟨#[]⟩) 24 27]++gS 5 [.mv 28]
def c36r6 : List GOp:=gS 29 [.bin .add 20 (ci 1)]++gS 20 [.mv 29]
def c36l7 : DE:=.seq (.reg c36r3) (.seq (.cond 21 (.skip) (.exit 0)) (.seq (.block 1 (.seq (.reg c36r4) (.reg c36r5))) (.reg c36r6)))
def c36r8 : List GOp:=gS 30 [.mv 5,.mv 1,.bslice 9 1 1 (.string ⟨#[]⟩) [(0,31)],.app 9 1 16 (.string ⟨#[]⟩) 30 32,.call 54 [33]]++gS 4 [.mv 34]
def c36 : EFn:=⟨35,.seq (.reg c36r0) (.seq (.sfx false false false true c36r1 c36r1z) (.join (.seq (.reg c36r2) (.block 0 (.loop c36l7))) (.seq (.reg c36r8) (.ret)))),[.tmp 4]⟩
theorem c36_ok : compF Tryz.prog 36=some c36.er:=by kernel_rfl
set_option maxHeartbeats 4000000 in
theorem title_Message_R {P:Program}(hP:P=Tryz.prog)(t_:Title)(to:ByteArray)(r:ByteArray)(h:title_Message_g t_ to=some r):Fn1 P 36 [vTitle t_,vS to] (vS r):=by
 refine .walkE (hP▸c36_ok) fun K hK=>?_;unfold title_Message_g at h;cbv;refine .g h (fun v hv=>strconv_Itoa_R hP _ v hv) aw_ rfl (fun _=>rfl) fun v1 h=>?_;cbv;refine .g h (fun v hv=>strconv_Itoa_R hP _ v hv) aw_ rfl (fun _=>rfl) fun v2 h=>?_;cbv;refine .g (e:=eS) h (W_cons aw_ (W_cons aw_ (W_cons aw_ (W_nil' _)))) fun l3 h=>?_;cbv;refine .g h (fun (l4:(List ByteArray))=>[.top,.d (.val (.string to))]++rp 3 .top++[.hd 0]++rp 29 .top) (fun l4=>[rA l4]) (fun y hm Kn1 hKn1=>?_) fun t h=>?_
 ·have h:=hm;clear hm;cbv;refine .g h (fun ((l5,v6):(List ByteArray)×Int)=>[.top,.d (.val (.string to))]++rp 3 .top++[.hd 0]++rp 12 .top++[dq eTransfer t_.Chain,oi (io.len (W eTransfer t_.Chain)),oi v6]++rp 14 .top) (fun (l5,v6)=>[rA l5]) (.nz (.mtE [1] ?_)) fun s x h hr2 Kn2 hKn2=>?_
  ·exact mx
  unfold title_Message_l2 at h;obtain⟨l5,v6⟩:=s;cbv;refine brkG h ?_ ?_<;>intro h
  ·cbv;refine .g h (fun _=>rfl) fun x7 h=>?_;cbv;refine .g (e:=eS) h (W_cons aw_ (W_nil' _)) fun l8 h=>?_;cbv;refine .g h rfl (fun _=>rfl) (by decide) fun l9 h=>?_;cbv;obtain rfl:=oj h;exact hKn2 _ _ _ rfl (.nz (.mtE [3] mx))
  ·cbv;obtain rfl:=oj h;obtain rfl:=hr2 _ rfl;exact hKn1 _ _ _ rfl (.nz (.mtE [0] mx))
 obtain⟨l4,rfl⟩:=ez t;cbv;refine .g (e:=eS) h (W_cons aw_ (W_nil' _)) fun l10 h=>?_;cbv;refine .g h rfl (fun _=>rfl) (by decide) fun l11 h=>?_;cbv;refine .gl [] h (fun v hv=>digest_List_R hP _ v hv) aw_ rfl fun v12 h=>?_;cbv;obtain rfl:=oj h;exact hK _ _ aw_
end Go.SX.Rg
namespace Go.SX.Rg
open Go Go.SX Go.Proofs
set_option maxRecDepth 100000
noncomputable def sign_Verify_l2 (sig:(List ByteArray))(v1:(A18 Int)):((List ByteArray)×Int)→Option (((List ByteArray)×Int) ⊕ (((List ByteArray)) ⊕ (Bool)))
 | (ends3,v4) =>
 bif (io.lt v4 (io.len (W eS sig))) then (
 orR (
 Option.bind (idxG sig v4) fun x6 =>
 Option.bind (digest_Is_g x6) fun v7 =>
 bif (io.not v7) then (
 some (.inr (.inr (.inr false)))
 ) else (
 Option.bind (pixG 18 v4) fun ix8 =>
 Option.bind (digest_Chain_g x6 (io.ar .sub .i64 15 (v1.get ix8))) fun v9 =>
 Option.bind (some [v9]) fun l10 =>
 Option.bind (appG ends3 l10) fun ends11 =>
 some (.inl ends11)
 )
 ) fun ends5 =>
 some (.inl (ends5,(io.ar .add .i64 v4 1)))
 ) else (
 some (.inr (.inl ends3))
 )
noncomputable def sign_Verify_g (public_:ByteArray)(message:ByteArray)(sig:(List ByteArray)):Option (Bool) :=
 bif (io.not (io.eq (io.len (W eS sig)) 18)) then (
 some false
 ) else (
 Option.bind (sign_digits_g message) fun v1 =>
 orR (
 whileG (sign_Verify_l2 sig v1) ([],0)
 ) fun ends2 =>
 Option.bind (digest_List_g ends2) fun v12 =>
 some (io.seq v12 public_)
 )
end Go.SX.Rg
namespace Go.SX.Rg
open Go Go.SX Go.Proofs
set_option maxRecDepth 100000
def c74r0 : List GOp:=gS 6 [.mv (cB false)]
def c74r1 : List GOp:=gS 11 [.mv 2,.len false 11,.bin .neq 12 (ci 18)]
def c74r2 : List GOp:=gS 6 [.mv (cB false)]
def c74r3 : List GOp:=gS 14 [.mv 1,.call 68 [14]]++gS 7 [.alloc 96 (.agg #[oz,oz,oz,oz,oz,oz,oz,oz,oz,oz,oz,oz,oz,oz,oz,oz,oz,oz])]++[⟨none,.store 18 7 15,none⟩]
def c74r4 : List GOp:=gS 8 [.mv cn]
def c74r5 : List GOp:=gS 16 [.mv 2,.len false 16,.mv (ci 0)]
def c74r6 : List GOp:=gS 19 [.bin .lss 18 17]
def c74r7 : List GOp:=gS 20 [.mv 18,.idxA 1 16 18,.load 1 false 21]++gS 9 [.mv 20,.mv 22]
def c74r8 : List GOp:=gS 23 [.mv 10,.call 57 [23],.un .not 24]
def c74r9 : List GOp:=gS 6 [.mv (cB false)]
def c74r10 : List GOp:=gS 26 [.mv 8,.mv 10,.mv 9,.idxP 18 1 7 28,.load 1 false 29,.bin .sub (ci 15) 30,.call 96 [27,31],.bslice 9 1 1 (.string ⟨#[]⟩) [(0,32)],.app 9 1 16 (.string ⟨#[]⟩) 26 33]++gS 8 [.mv 34]
def c74r11 : List GOp:=gS 35 [.bin .add 18 (ci 1)]++gS 18 [.mv 35]
def c74l12 : DE:=.seq (.reg c74r6) (.seq (.cond 19 (.skip) (.exit 0)) (.join (.block 1 (.seq (.reg c74r7) (.seq (.seq (.reg c74r8) (.cond 25 (.seq (.reg c74r9) (.ret)) (.skip))) (.reg c74r10)))) (.reg c74r11)))
def c74r13 : List GOp:=gS 36 [.mv 8,.call 54 [36],.mv 0,.bin .eql 37 38]++gS 6 [.mv 39]
def c74 : EFn:=⟨40,.seq (.reg c74r0) (.seq (.seq (.reg c74r1) (.cond 13 (.seq (.reg c74r2) (.ret)) (.skip))) (.seq (.reg c74r3) (.seq (.reg c74r4) (.join (.seq (.reg c74r5) (.block 0 (.loop c74l12))) (.seq (.reg c74r13) (.ret)))))),[.tmp 6]⟩
theorem c74_ok : compF Tryz.prog 74=some c74.er:=by kernel_rfl
set_option maxHeartbeats 4000000 in
theorem sign_Verify_R {P:Program}(hP:P=Tryz.prog)(public_:ByteArray)(message:ByteArray)(sig:(List ByteArray))(r:Bool)(h:sign_Verify_g public_ message sig=some r):Fn1 P 74 [vS public_,vS message,vLS sig] (vB r):=by
 refine .walkE (hP▸c74_ok) fun K hK=>?_;unfold sign_Verify_g at h;cbv;refine brkG h ?_ ?_<;>intro h
 ·cbv;obtain rfl:=oj h;exact hK _ _ aw_
 ·cbv;refine .g h (fun v hv=>sign_digits_R hP _ v hv) aw_ rfl (fun _=>rfl) fun v1 h=>?_;cbv;refine .ga h (fun (ends2:(List ByteArray))=>[.d (.val (.string public_))]++rp 7 .top++[.hd 0]++rp 31 .top) (fun ends2=>[rA ends2]) (fun y hm hr1 Kn1 hKn1=>?_) fun t h=>?_
  ·have h:=hm;clear hm;cbv;refine .g h (fun ((ends3,v4):(List ByteArray)×Int)=>[.d (.val (.string public_))]++rp 6 .top++[.ptr 0 0,.hd 1]++rp 7 .top++[dq eS sig,oi (io.len (W eS sig)),oi v4]++rp 21 .top) (fun (ends3,v4)=>[.cells [oi v1.a0,oi v1.a1,oi v1.a2,oi v1.a3,oi v1.a4,oi v1.a5,oi v1.a6,oi v1.a7,oi v1.a8,oi v1.a9,oi v1.a10,oi v1.a11,oi v1.a12,oi v1.a13,oi v1.a14,oi v1.a15,oi v1.a16,oi v1.a17] 96,rA ends3]) (.nilr 8 9 1 rfl (.nz (.mtE [0,1] ?_))) fun s x h hr2 Kn2 hKn2=>?_
   ·exact mx
   unfold sign_Verify_l2 at h;obtain⟨ends3,v4⟩:=s;cbv;refine brkG h ?_ ?_<;>intro h
   ·cbv;refine .ga h (fun (ends5:(List ByteArray))=>[.d (.val (.string public_))]++rp 6 .top++[.ptr 0 0,.hd 1]++rp 7 .top++[dq eS sig,oi (io.len (W eS sig)),oi v4]++rp 21 .top) (fun ends5=>[.cells [oi v1.a0,oi v1.a1,oi v1.a2,oi v1.a3,oi v1.a4,oi v1.a5,oi v1.a6,oi v1.a7,oi v1.a8,oi v1.a9,oi v1.a10,oi v1.a11,oi v1.a12,oi v1.a13,oi v1.a14,oi v1.a15,oi v1.a16,oi v1.a17] 96,rA ends5]) (fun y hm hr3 Kn3 hKn3=>?_) fun t h=>?_
    ·have h:=hm;clear hm;cbv;refine .g h (fun _=>rfl) fun x6 h=>?_;cbv;refine .g h (fun v hv=>digest_Is_R hP _ v hv) aw_ rfl (fun _=>rfl) fun v7 h=>?_;cbv;refine brkG h ?_ ?_<;>intro h
     ·cbv;obtain rfl:=oj h;obtain rfl:=hr3 _ rfl;obtain rfl:=hr2 _ rfl;obtain rfl:=hr1 _ rfl;exact hK _ _ aw_
     ·cbv
      refine .c18 h ?_ ?_ ?_ ?_ ?_ ?_ ?_ ?_ ?_ ?_ ?_ ?_ ?_ ?_ ?_ ?_ ?_ ?_<;>(
       intro hnix8 h;cbv;refine .g h (fun v hv=>digest_Chain_R hP _ _ v hv) aw_ rfl (fun _=>rfl) fun v9 h=>?_;cbv;refine .g (e:=eS) h (W_cons aw_ (W_nil' _)) fun l10 h=>?_;cbv;refine .g h rfl (fun _=>rfl) (by decide) fun ends11 h=>?_;cbv;obtain rfl:=oj h;exact hKn3 _ _ _ rfl (.nz (.mtE [0,3] mx))
       )
    obtain⟨ends5,rfl⟩:=ez t;cbv;obtain rfl:=oj h;exact hKn2 _ _ _ rfl (.nz (.mtE [0,1] mx))
   ·cbv;obtain rfl:=oj h;obtain rfl:=hr2 _ rfl;exact hKn1 _ _ _ rfl (.nz (.mtE [1] mx))
  obtain⟨ends2,rfl⟩:=ez t;cbv;refine .gl [] h (fun v hv=>digest_List_R hP _ v hv) aw_ rfl fun v12 h=>?_;cbv;obtain rfl:=oj h;exact hK _ _ aw_
end Go.SX.Rg
namespace Go.SX.Rg
open Go Go.SX Go.Proofs
set_option maxRecDepth 100000
def c30r0 : List GOp:=gS 2 [.mv (.const (.string ⟨#[]⟩))]
def c30r1 : List GOp:=gS 3 [.mv 0,.call 55 [3,(.func 56)],.call 54 [4]]++gS 2 [.mv 5]
def c30 : EFn:=⟨6,.seq (.reg c30r0) (.seq (.reg c30r1) (.ret)),[.tmp 2]⟩
theorem c30_ok : compF Tryz.prog 30=some c30.er:=by kernel_rfl
set_option maxHeartbeats 4000000 in
theorem sign_Public_R {P:Program}(hP:P=Tryz.prog)(secret:ByteArray)(r:ByteArray)(h:sign_Public_g secret=some r):Fn1 P 30 [vS secret] (vS r):=by
 refine .walkE (hP▸c30_ok) fun K hK=>?_;unfold sign_Public_g at h;cbv;obtain⟨l1,hm,h⟩:=Option.bind_eq_some_iff.1 h;refine .embL [] (sign_walk56_R hP _ _ hm) mx fun sv0 own0 hq _=>?_;obtain⟨rfl,rfl⟩:=hq;clear hm;cbv;refine .g h (fun v hv=>digest_List_R hP _ v hv) aw_ rfl (fun _=>rfl) fun v2 h=>?_;cbv;obtain rfl:=oj h;exact hK _ _ aw_
end Go.SX.Rg
namespace Go.SX.Rg
open Go Go.SX Go.Proofs
set_option maxRecDepth 100000
def c37r0 : List GOp:=gS 4 [.mv cn]
def c37r1 : List GOp:=gS 6 [.mv 1,.call 68 [6]]++gS 5 [.alloc 96 (.agg #[oz,oz,oz,oz,oz,oz,oz,oz,oz,oz,oz,oz,oz,oz,oz,oz,oz,oz])]++[⟨none,.store 18 5 7,none⟩]
def c37r2 : List GOp:=gS 8 [.mv 0,.mkfn (.func 69) [] [5],.call 55 [8,9]]++gS 4 [.mv 10]
def c37 : EFn:=⟨11,.seq (.reg c37r0) (.seq (.reg c37r1) (.seq (.reg c37r2) (.ret))),[.tmp 4]⟩
theorem c37_ok : compF Tryz.prog 37=some c37.er:=by kernel_rfl
set_option maxHeartbeats 4000000 in
theorem sign_Sign_R {P:Program}(hP:P=Tryz.prog)(secret:ByteArray)(message:ByteArray)(r:(List ByteArray))(h:sign_Sign_g secret message=some r):Fn1 P 37 [vS secret,vS message] (vLS r):=by
 refine .walkE (hP▸c37_ok) fun K hK=>?_;unfold sign_Sign_g at h;cbv;refine .g h (fun v hv=>sign_digits_R hP _ v hv) aw_ rfl (fun _=>rfl) fun v1 h=>?_;cbv;obtain⟨l2,hm,h⟩:=Option.bind_eq_some_iff.1 h;refine .embLP [0] [] (sign_walk69_R hP _ _ _ hm) mx fun sv0 own0 hq _=>?_;obtain⟨rfl,rfl⟩:=hq;clear hm;cbv;obtain rfl:=oj h;exact hK _ _ aw_
end Go.SX.Rg
namespace Go.SX.Rg
open Go Go.SX Go.Proofs
set_option maxRecDepth 100000
def c21r0 : List GOp:=gS 3 [.box 32 0,.box 35 1]++gS 6 [.alloc 46 (.agg #[(.string ⟨#[]⟩),(.slice none 0 0)])]
def c21r1 : List GOp:=gS 9 [.fadd 0 3,.load 1 false 9,.bin .neq 10 (ci 4)]
def c21r2 : List GOp:=gS 12 [.fadd 3 3,.load 1 false 12,.fadd 4 3,.load 1 false 14,.build (.agg #[(.string ⟨#[]⟩),(.slice none 0 0)]) [((0,1),13),((1,1),15)]]++[⟨none,.store 2 6 16,none⟩]
def c21r3 : List GOp:=gS 17 [.fadd 3 3,.load 1 false 17,.call 31 [18],.call 30 [19]]++gS 7 [.mv 20]
def c21r4 : List GOp:=gS 8 [.mv (ci 0)]
def c21r5 : List GOp:=gS 21 [.mv 8,.mv 2,.len false 22,.bin .lss 21 23]
def c21r6 : List GOp:=gS 27 [.mv 2,.mv 8,.idxA 1 27 28,.load 1 false 29,.call 30 [30],.load 5 true 4,.call 35 [32],.bin .eql 31 33]
def c21r7 : List GOp:=gS 35 [.mv 7,.mv 2,.mv 8,.idxA 1 36 37,.load 1 false 38,.load 5 true 4,.mv 7,.call 36 [40,41],.call 37 [39,42]]
def c21r7z : List GOp:=gS 44 [.build (.agg #[(.string ⟨#[]⟩),(.slice none 0 0)]) [((0,1),35),((1,1),43)]]++[⟨none,.store 2 6 44,none⟩]
def c21r8 : List GOp:=gS 25 [.mv 8,.bin .add 25 (ci 1)]++gS 8 [.mv 26]
def c21l9 : DE:=.seq (.seq (.reg c21r5) (.cond 24 (.skip) (.exit 0))) (.seq (.block 1 (.seq (.par false false false true 6 c21r6) (.cond 34 (.seq (.sfx false false false true c21r7 c21r7z) (.ret)) (.skip)))) (.reg c21r8))
def c21r10 : List GOp:=gS 45 [.mv 7,.build (.agg #[(.string ⟨#[]⟩),(.slice none 0 0)]) [((0,1),45)]]++[⟨none,.store 2 6 46,none⟩]
def c21 : EFn:=⟨47,.seq (.reg c21r0) (.seq (.seq (.reg c21r1) (.cond 11 (.seq (.reg c21r2) (.ret)) (.skip))) (.seq (.reg c21r3) (.join (.seq (.reg c21r4) (.block 0 (.loop c21l9))) (.seq (.reg c21r10) (.ret))))),[.cell 6 2 true]⟩
theorem c21_ok : compF Tryz.prog 21=some c21.er:=by kernel_rfl
set_option maxHeartbeats 4000000 in
theorem law32_transfer_R {P:Program}(hP:P=Tryz.prog)(x_:Op)(t_:Title)(known:(List ByteArray))(r:Transfer)(h:law32_transfer_g x_ t_ known=some r):Fn1 P 21 [vOp x_,vTitle t_,vLS known] (vTransfer r):=by
 refine .walkE (hP▸c21_ok) fun K hK=>?_;unfold law32_transfer_g at h;cbv;refine brkG h ?_ ?_<;>intro h
 ·cbv;obtain rfl:=oj h;exact hK _ _ aw_
 ·cbv;refine .g h (fun v hv=>law32_secret_R hP _ v hv) aw_ rfl (fun _=>rfl) fun v1 h=>?_;cbv;refine .g h (fun v hv=>sign_Public_R hP _ v hv) aw_ rfl (fun _=>rfl) fun to2 h=>?_;cbv;refine .ga h (fun (_:Unit)=>rp 6 .top++[.ptr 0 0,.d (.val (.string to2))]++rp 39 .top) (fun _=>[.cells [.d (.val (.string (⟨#[]⟩))),.d (.val (.slice none 0 0))] 46]) (fun y hm hr1 Kn1 hKn1=>?_) fun t h=>?_
  ·have h:=hm;clear hm;cbv;refine .g h (fun (i3:Int)=>[.top,.top,dq eS known,.top,.ptr 0 0,.top,.ptr 1 0,.d (.val (.string to2)),oi i3]++rp 38 .top) (fun i3=>[.cells [oi t_.Serial,oi t_.Show,oi t_.Place,.d (.val (.string t_.First)),dq eTransfer t_.Chain] 35,.cells [.d (.val (.string (⟨#[]⟩))),.d (.val (.slice none 0 0))] 46]) (.nz (.mtE [1,2] ?_)) fun s x h hr2 Kn2 hKn2=>?_
   ·exact mx
   unfold law32_transfer_l2 at h;obtain⟨i3,rfl⟩:=ez s;cbv;refine brkG h ?_ ?_<;>intro h
   ·cbv;refine .g h (fun _=>rfl) fun x4 h=>?_;cbv;refine .g h (fun v hv=>sign_Public_R hP _ v hv) aw_ rfl (fun _=>rfl) fun v5 h=>?_;cbv;refine .g h (fun v hv=>title_Owner_R hP _ v hv) aw_ rfl (fun _=>rfl) fun v6 h=>?_;cbv;refine brkG h ?_ ?_<;>intro h
    ·cbv;refine .g h (fun _=>rfl) fun x7 h=>?_;cbv;refine .g h (fun v hv=>title_Message_R hP _ _ v hv) aw_ rfl (fun _=>rfl) fun v8 h=>?_;cbv;refine .g h (fun v hv=>sign_Sign_R hP _ _ v hv) aw_ rfl (fun _=>rfl) fun v9 h=>?_;cbv;obtain rfl:=oj h;obtain rfl:=hr2 _ rfl;obtain rfl:=hr1 _ rfl;exact hK _ _ aw_
    ·cbv;obtain rfl:=oj h;exact hKn2 _ _ _ rfl (.nz (.mtE [0,1] mx))
   ·cbv;obtain rfl:=oj h;obtain rfl:=hr2 _ rfl;exact hKn1 _ _ _ rfl (.nz (.mtE [1] mx))
  cbv;obtain rfl:=oj h;exact hK _ _ aw_
end Go.SX.Rg
namespace Go.SX.Rg
open Go Go.SX Go.Proofs
set_option maxRecDepth 100000
noncomputable def ref02_List_g (l:(List ByteArray)):Option (ByteArray) :=
 Option.bind (ref02_Joined_g l) fun v1 =>
 Option.bind (ref02_Sum_g v1) fun v2 =>
 some v2
end Go.SX.Rg
namespace Go.SX.Rg
open Go Go.SX Go.Proofs
set_option maxRecDepth 100000
noncomputable def ref03_Verify_l2 (sig:(List ByteArray))(d2:(List Int)):((List ByteArray)×Int)→Option (((List ByteArray)×Int) ⊕ (((List ByteArray)) ⊕ (Bool)))
 | (ends4,i5) =>
 bif (io.lt i5 18) then (
 Option.bind (idxG sig i5) fun x6 =>
 Option.bind (ref02_Is_g x6) fun v7 =>
 bif (io.not v7) then (
 some (.inr (.inr false))
 ) else (
 Option.bind (idxG sig i5) fun x8 =>
 Option.bind (idxG d2 i5) fun x9 =>
 Option.bind (ref02_Chain_g x8 (io.ar .sub .i64 15 x9)) fun v10 =>
 Option.bind (some [v10]) fun l11 =>
 Option.bind (appG ends4 l11) fun ends12 =>
 some (.inl (ends12,(io.ar .add .i64 i5 1)))
 )
 ) else (
 some (.inr (.inl ends4))
 )
noncomputable def ref03_Verify_g (public_:ByteArray)(message:ByteArray)(sig:(List ByteArray)):Option (Bool) :=
 bif (io.not (io.eq (io.len (W eS sig)) 18)) then (
 some false
 ) else (
 Option.bind (ref02_Sum_g message) fun v1 =>
 Option.bind (ref03_Digits_g v1) fun d2 =>
 orR (
 whileG (ref03_Verify_l2 sig d2) ([],0)
 ) fun ends3 =>
 Option.bind (ref02_List_g ends3) fun v13 =>
 some (io.seq v13 public_)
 )
end Go.SX.Rg
namespace Go.SX.Rg
open Go Go.SX Go.Proofs
set_option maxRecDepth 100000
noncomputable def ref30_Message_g (t_:Title)(to:ByteArray):Option (ByteArray) :=
 Option.bind (ref30_Fields_g t_ to) fun v1 =>
 Option.bind (ref02_Joined_g v1) fun v2 =>
 Option.bind (ref02_Sum_g v2) fun t3 =>
 some t3
end Go.SX.Rg
namespace Go.SX.Rg
open Go Go.SX Go.Proofs
set_option maxRecDepth 100000
noncomputable def ref30_Valid_l2 (t_:Title):Int→Option ((Int) ⊕ ((Unit) ⊕ (Bool)))
 | i2 =>
 bif (io.lt i2 (io.len (W eTransfer t_.Chain))) then (
 Option.bind (ref30_Cut_g t_ i2) fun v3 =>
 Option.bind (idxG t_.Chain i2) fun x4 =>
 Option.bind (
 Option.bind (ref30_Used_g v3 x4.To) fun v6 =>
 bif v6 then (
 some true
 ) else (
 Option.bind (ref30_Owner_g v3) fun v7 =>
 Option.bind (ref30_Message_g v3 x4.To) fun v8 =>
 Option.bind (ref03_Verify_g v7 v8 x4.Sig) fun v9 =>
 some (io.not v9)
 )
 ) fun v5 =>
 bif v5 then (
 some (.inr (.inr false))
 ) else (
 some (.inl (io.ar .add .i64 i2 1))
 )
 ) else (
 some (.inr (.inl ()))
 )
noncomputable def ref30_Valid_g (t_:Title):Option (Bool) :=
 Option.bind (ref30_Formed_g t_) fun v1 =>
 bif (io.not v1) then (
 some false
 ) else (
 orR (
 whileG (ref30_Valid_l2 t_) 0
 ) fun _ =>
 some true
 )
end Go.SX.Rg
namespace Go.SX.Rg
open Go Go.SX Go.Proofs
set_option maxRecDepth 100000
noncomputable def ref32_Registry_Pass_b (show0:Int)(places0:Int)(titles0:(List Title))(gone0:(List Int))(serial:Int)(x_:Transfer):Option (Int×(List Title)×(List Int)) :=
 Option.bind (
 Option.bind (ref32_Registry_find_b show0 places0 titles0 gone0 serial) fun r3 =>
 some (r3.1,r3.2)
 ) fun (i1,e2) =>
 bif (io.not (io.eq e2 0)) then (
 some (e2,titles0,gone0)
 ) else (
 Option.bind (idxG titles0 i1) fun x4 =>
 bif (io.le 50 (io.len (W eTransfer x4.Chain))) then (
 some (3,titles0,gone0)
 ) else (
 Option.bind (some ([]:List Transfer)) fun l5 =>
 Option.bind (appG l5 x4.Chain) fun l6 =>
 Option.bind (some [x_]) fun l7 =>
 Option.bind (appG l6 l7) fun l8 =>
 Option.bind (ref30_Valid_g (Title.mk x4.Serial x4.Show x4.Place x4.First l8)) fun v9 =>
 bif (io.not v9) then (
 some (20,titles0,gone0)
 ) else (
 Option.bind (ref32_Registry_put_b show0 places0 titles0 gone0 i1 (Title.mk x4.Serial x4.Show x4.Place x4.First l8) 0) fun r10 =>
 some (0,r10.1,r10.2)
 )
 )
 )
noncomputable def ref32_Registry_Pass_nil_g (serial:Int)(x_:Transfer):Option (Int) :=
 some 1
end Go.SX.Rg
namespace Go.SX.Rg
open Go Go.SX Go.Proofs
set_option maxRecDepth 100000
def c66r0 : List GOp:=gS 2 [.mv (.const (.string ⟨#[]⟩))]
def c66r1 : List GOp:=gS 3 [.mv 0,.call 102 [3],.call 64 [4]]++gS 2 [.mv 5]
def c66 : EFn:=⟨6,.seq (.reg c66r0) (.seq (.reg c66r1) (.ret)),[.tmp 2]⟩
theorem c66_ok : compF Tryz.prog 66=some c66.er:=by kernel_rfl
def c88r0 : List GOp:=gS 2 [.box 35 0]++gS 4 [.mv (.const (.string ⟨#[]⟩))]
def c88r1 : List GOp:=gS 5 [.load 5 true 2,.mv 1,.call 109 [5,6],.call 66 [7]]++gS 4 [.mv 8]
def c88 : EFn:=⟨9,.seq (.reg c88r0) (.seq (.reg c88r1) (.ret)),[.tmp 4]⟩
theorem c88_ok : compF Tryz.prog 88=some c88.er:=by kernel_rfl
set_option maxHeartbeats 4000000 in
theorem ref30_Message_R {P:Program}(hP:P=Tryz.prog)(t_:Title)(to:ByteArray)(r:ByteArray)(h:ref30_Message_g t_ to=some r):Fn1 P 88 [vTitle t_,vS to] (vS r):=by
 refine .walkE (hP▸c88_ok) fun K hK=>?_;unfold ref30_Message_g at h;cbv;refine .g h (fun v hv=>ref30_Fields_R hP _ _ v hv) aw_ rfl (fun _=>rfl) fun v1 h=>?_;cbv;refine .inl (hP▸c66_ok) ?_;cbv;refine .g h (fun v hv=>ref02_Joined_R hP _ v hv) aw_ rfl (fun _=>rfl) fun v2 h=>?_;cbv;refine .g h (fun v hv=>ref02_Sum_R hP _ v hv) aw_ rfl (fun _=>rfl) fun t3 h=>?_;cbv;obtain rfl:=oj h;exact hK _ _ aw_
end Go.SX.Rg
namespace Go.SX.Rg
open Go Go.SX Go.Proofs
set_option maxRecDepth 100000
set_option maxHeartbeats 4000000 in
theorem ref02_List_R {P:Program}(hP:P=Tryz.prog)(l:(List ByteArray))(r:ByteArray)(h:ref02_List_g l=some r):Fn1 P 66 [vLS l] (vS r):=by
 refine .walkE (hP▸c66_ok) fun K hK=>?_;unfold ref02_List_g at h;cbv;refine .g h (fun v hv=>ref02_Joined_R hP _ v hv) aw_ rfl (fun _=>rfl) fun v1 h=>?_;cbv;refine .g h (fun v hv=>ref02_Sum_R hP _ v hv) aw_ rfl (fun _=>rfl) fun v2 h=>?_;cbv;obtain rfl:=oj h;exact hK _ _ aw_
end Go.SX.Rg
namespace Go.SX.Rg
open Go Go.SX Go.Proofs
set_option maxRecDepth 100000
def c34r0 : List GOp:=gS 6 [.mv (cB false)]
def c34r1 : List GOp:=gS 10 [.mv 2,.len false 10,.bin .neq 11 (ci 18)]
def c34r2 : List GOp:=gS 6 [.mv (cB false)]
def c34r3 : List GOp:=gS 13 [.mv 1,.call 64 [13],.call 63 [14]]++gS 7 [.mv 15]
def c34r4 : List GOp:=gS 8 [.mv cn]
def c34r5 : List GOp:=gS 9 [.mv (ci 0)]
def c34r6 : List GOp:=gS 16 [.mv 9,.bin .lss 16 (ci 18)]
def c34r7 : List GOp:=gS 20 [.mv 2,.mv 9,.idxA 1 20 21,.load 1 false 22,.call 40 [23],.un .not 24]
def c34r8 : List GOp:=gS 6 [.mv (cB false)]
def c34r9 : List GOp:=gS 26 [.mv 8,.mv 2,.mv 9,.idxA 1 27 28,.load 1 false 29,.mv 7,.mv 9,.idxA 1 31 32,.load 1 false 33,.bin .sub (ci 15) 34,.call 65 [30,35],.bslice 9 1 1 (.string ⟨#[]⟩) [(0,36)]]
def c34r9z : List GOp:=gS 38 [.app 9 1 16 (.string ⟨#[]⟩) 26 37]++gS 8 [.mv 38]
def c34r10 : List GOp:=gS 18 [.mv 9,.bin .add 18 (ci 1)]++gS 9 [.mv 19]
def c34l11 : DE:=.seq (.seq (.reg c34r6) (.cond 17 (.skip) (.exit 0))) (.seq (.block 1 (.seq (.seq (.reg c34r7) (.cond 25 (.seq (.reg c34r8) (.ret)) (.skip))) (.sfx false false false true c34r9 c34r9z))) (.reg c34r10))
def c34r12 : List GOp:=gS 39 [.mv 8,.call 66 [39],.mv 0,.bin .eql 40 41]++gS 6 [.mv 42]
def c34 : EFn:=⟨43,.seq (.reg c34r0) (.seq (.seq (.reg c34r1) (.cond 12 (.seq (.reg c34r2) (.ret)) (.skip))) (.seq (.reg c34r3) (.seq (.reg c34r4) (.join (.seq (.reg c34r5) (.block 0 (.loop c34l11))) (.seq (.reg c34r12) (.ret)))))),[.tmp 6]⟩
theorem c34_ok : compF Tryz.prog 34=some c34.er:=by kernel_rfl
set_option maxHeartbeats 4000000 in
theorem ref03_Verify_R {P:Program}(hP:P=Tryz.prog)(public_:ByteArray)(message:ByteArray)(sig:(List ByteArray))(r:Bool)(h:ref03_Verify_g public_ message sig=some r):Fn1 P 34 [vS public_,vS message,vLS sig] (vB r):=by
 refine .walkE (hP▸c34_ok) fun K hK=>?_;unfold ref03_Verify_g at h;cbv;refine brkG h ?_ ?_<;>intro h
 ·cbv;obtain rfl:=oj h;exact hK _ _ aw_
 ·cbv;refine .g h (fun v hv=>ref02_Sum_R hP _ v hv) aw_ rfl (fun _=>rfl) fun v1 h=>?_;cbv;refine .g h (fun v hv=>ref03_Digits_R hP _ v hv) aw_ rfl (fun _=>rfl) fun d2 h=>?_;cbv;refine .ga h (fun (ends3:(List ByteArray))=>[.d (.val (.string public_))]++rp 7 .top++[.hd 0]++rp 34 .top) (fun ends3=>[rA ends3]) (fun y hm hr1 Kn1 hKn1=>?_) fun t h=>?_
  ·have h:=hm;clear hm;cbv;refine .g h (fun ((ends4,i5):(List ByteArray)×Int)=>[.d (.val (.string public_)),.top,dq eS sig]++rp 4 .top++[dq eIi64 d2,.hd 0,oi i5]++rp 33 .top) (fun (ends4,i5)=>[rA ends4]) (.nilr 8 9 1 rfl (.nz (.mtE [0] ?_))) fun s x h hr2 Kn2 hKn2=>?_
   ·exact mx
   unfold ref03_Verify_l2 at h;obtain⟨ends4,i5⟩:=s;cbv;refine brkG h ?_ ?_<;>intro h
   ·cbv;refine .g h (fun _=>rfl) fun x6 h=>?_;cbv;refine .g h (fun v hv=>ref02_Is_R hP _ v hv) aw_ rfl (fun _=>rfl) fun v7 h=>?_;cbv;refine brkG h ?_ ?_<;>intro h
    ·cbv;obtain rfl:=oj h;obtain rfl:=hr2 _ rfl;obtain rfl:=hr1 _ rfl;exact hK _ _ aw_
    ·cbv;refine .g h (fun _=>rfl) fun x8 h=>?_;cbv;refine .g h (fun _=>rfl) fun x9 h=>?_;cbv;refine .g h (fun v hv=>ref02_Chain_R hP _ _ v hv) aw_ rfl (fun _=>rfl) fun v10 h=>?_;cbv;refine .g (e:=eS) h (W_cons aw_ (W_nil' _)) fun l11 h=>?_;cbv;refine .g h rfl (fun _=>rfl) (by decide) fun ends12 h=>?_;cbv;obtain rfl:=oj h;exact hKn2 _ _ _ rfl (.nz (.mtE [1] mx))
   ·cbv;obtain rfl:=oj h;obtain rfl:=hr2 _ rfl;exact hKn1 _ _ _ rfl (.nz (.mtE [0] mx))
  obtain⟨ends3,rfl⟩:=ez t;cbv;refine .gl [] h (fun v hv=>ref02_List_R hP _ v hv) aw_ rfl fun v13 h=>?_;cbv;obtain rfl:=oj h;exact hK _ _ aw_
end Go.SX.Rg
namespace Go.SX.Rg
open Go Go.SX Go.Proofs
set_option maxRecDepth 100000
def c50r0 : List GOp:=gS 1 [.box 35 0,.mv (cB false)]
def c50r1 : List GOp:=gS 6 [.load 5 true 1,.call 84 [6],.un .not 7]
def c50r2 : List GOp:=gS 2 [.mv (cB false)]
def c50r3 : List GOp:=gS 3 [.mv (ci 0)]
def c50r4 : List GOp:=gS 9 [.mv 3,.fadd 4 1,.load 1 false 10,.len false 11,.bin .lss 9 12]
def c50r5 : List GOp:=gS 16 [.load 5 true 1,.mv 3,.call 85 [16,17]]++gS 4 [.alloc 35 (.agg #[oz,oz,oz,(.string ⟨#[]⟩),(.slice none 0 0)])]++[⟨none,.store 5 4 18,none⟩]
def c50r6 : List GOp:=gS 19 [.fadd 4 1,.load 1 false 19,.mv 3,.idxA 2 20 21,.load 2 true 22]++gS 5 [.alloc 46 (.agg #[(.string ⟨#[]⟩),(.slice none 0 0)])]++[⟨none,.store 2 5 23,none⟩]
def c50r7 : List GOp:=gS 24 [.load 5 true 4,.fadd 0 5,.load 1 false 25,.call 86 [24,26],.mv 27]++gQ 28 false 29 [.load 5 true 4,.call 87 [29],.load 5 true 4,.fadd 0 5,.load 1 false 32,.call 88 [31,33],.fadd 1 5,.load 1 false 35,.call 34 [30,34,36],.un .not 37]++gS 39 [.pick 28 (cB true) 38]
def c50r8 : List GOp:=gS 2 [.mv (cB false)]
def c50r9 : List GOp:=gS 14 [.mv 3,.bin .add 14 (ci 1)]++gS 3 [.mv 15]
def c50l10 : DE:=.seq (.seq (.reg c50r4) (.cond 13 (.skip) (.exit 0))) (.seq (.block 1 (.seq (.reg c50r5) (.seq (.reg c50r6) (.join (.par false false false true 13 c50r7) (.cond 39 (.seq (.reg c50r8) (.ret)) (.skip)))))) (.reg c50r9))
def c50r11 : List GOp:=gS 2 [.mv (cB true)]
def c50 : EFn:=⟨40,.seq (.reg c50r0) (.seq (.seq (.reg c50r1) (.cond 8 (.seq (.reg c50r2) (.ret)) (.skip))) (.join (.seq (.reg c50r3) (.block 0 (.loop c50l10))) (.seq (.reg c50r11) (.ret)))),[.tmp 2]⟩
theorem c50_ok : compF Tryz.prog 50=some c50.er:=by kernel_rfl
set_option maxHeartbeats 4000000 in
theorem ref30_Valid_R {P:Program}(hP:P=Tryz.prog)(t_:Title)(r:Bool)(h:ref30_Valid_g t_=some r):Fn1 P 50 [vTitle t_] (vB r):=by
 refine .walkE (hP▸c50_ok) fun K hK=>?_;unfold ref30_Valid_g at h;cbv;refine .g h (fun v hv=>ref30_Formed_R hP _ v hv) aw_ rfl (fun _=>rfl) fun v1 h=>?_;cbv;refine brkG h ?_ ?_<;>intro h
 ·cbv;obtain rfl:=oj h;exact hK _ _ aw_
 ·cbv;refine .ga h (fun (_:Unit)=>rp 40 .top) (fun _=>[]) (fun y hm hr1 Kn1 hKn1=>?_) fun t h=>?_
  ·have h:=hm;clear hm;cbv;refine .g h (fun (i2:Int)=>[.top,.ptr 0 0,.top,oi i2]++rp 36 .top) (fun i2=>[.cells [oi t_.Serial,oi t_.Show,oi t_.Place,.d (.val (.string t_.First)),dq eTransfer t_.Chain] 35]) (.nz (.mtE [0] ?_)) fun s x h hr2 Kn2 hKn2=>?_
   ·exact mx
   unfold ref30_Valid_l2 at h;obtain⟨i2,rfl⟩:=ez s;cbv;refine brkG h ?_ ?_<;>intro h
   ·cbv;refine .g h (fun v hv=>ref30_Cut_R hP _ _ v hv) aw_ rfl (fun _=>rfl) fun v3 h=>?_;cbv;refine .g h (fun _=>rfl) fun x4 h=>?_;cbv;refine .g h (fun (v5:Bool)=>[.top,.ptr 0 0,.top,oi i2]++rp 35 .top++[ob v5]) (fun v5=>[.cells [oi t_.Serial,oi t_.Show,oi t_.Place,.d (.val (.string t_.First)),dq eTransfer t_.Chain] 35]) (fun y hm Kn3 hKn3=>?_) fun t h=>?_
    ·have h:=hm;clear hm;cbv;refine .g h (fun v hv=>ref30_Used_R hP _ _ v hv) aw_ rfl (fun _=>rfl) fun v6 h=>?_;cbv;refine brkG h ?_ ?_<;>intro h
     ·cbv;obtain rfl:=oj h;exact hKn3 _ _ _ rfl (.nz (.mtE [0] mx))
     ·cbv;refine .g h (fun v hv=>ref30_Owner_R hP _ v hv) aw_ rfl (fun _=>rfl) fun v7 h=>?_;cbv;refine .g h (fun v hv=>ref30_Message_R hP _ _ v hv) aw_ rfl (fun _=>rfl) fun v8 h=>?_;cbv;refine .g h (fun v hv=>ref03_Verify_R hP _ _ _ v hv) aw_ rfl (fun _=>rfl) fun v9 h=>?_;cbv;obtain rfl:=oj h;exact hKn3 _ _ _ rfl (.nz (.mtE [0] mx))
    obtain⟨v5,rfl⟩:=ez t;cbv;refine brkG h ?_ ?_<;>intro h
    ·cbv;obtain rfl:=oj h;obtain rfl:=hr2 _ rfl;obtain rfl:=hr1 _ rfl;exact hK _ _ aw_
    ·cbv;obtain rfl:=oj h;exact hKn2 _ _ _ rfl (.nz (.mtE [0] mx))
   ·cbv;obtain rfl:=oj h;obtain rfl:=hr2 _ rfl;exact hKn1 _ _ _ rfl (.nz (.mtE [] mx))
  cbv;obtain rfl:=oj h;exact hK _ _ aw_
end Go.SX.Rg
namespace Go.SX.Rg
open Go Go.SX Go.Proofs
set_option maxRecDepth 100000
def c20r0 : List GOp:=gS 5 [.box 46 2,.mv (ci 0)]
def c20r1 : List GOp:=gS 10 [.mv 0,.pnil false 10]
def c20r2 : List GOp:=gS 6 [.mv (ci 1)]
def c20r3 : List GOp:=gS 13 [.mv 0,.mv 1,.call 48 [13,14]]++gS 12 [.mv 15]++gS 16 [.ext 12 0,.ext 12 1]++gS 7 [.mv 16,.mv 17]
def c20r4 : List GOp:=gS 18 [.mv 8,.bin .neq 18 (ci 0)]
def c20r5 : List GOp:=gS 20 [.mv 8]++gS 6 [.mv 20]
def c20r6 : List GOp:=gS 21 [.mv 0,.nilck 21,.fadd 2 22,.load 1 false 23,.mv 7,.idxA 5 24 25,.load 5 true 26]++gS 9 [.alloc 35 (.agg #[oz,oz,oz,(.string ⟨#[]⟩),(.slice none 0 0)])]++[⟨none,.store 5 9 27,none⟩]
def c20r7 : List GOp:=gS 28 [.fadd 4 9,.load 1 false 28,.len false 29,.bin .geq 30 (ci 50)]
def c20r8 : List GOp:=gS 6 [.mv (ci 3)]
def c20r9 : List GOp:=gS 32 [.bslice 46 2 0 (.agg #[(.string ⟨#[]⟩),(.slice none 0 0)]) [],.fadd 4 9,.load 1 false 33,.app 46 2 40 (.agg #[(.string ⟨#[]⟩),(.slice none 0 0)]) 32 34,.load 2 true 5,.bslice 46 2 1 (.agg #[(.string ⟨#[]⟩),(.slice none 0 0)]) [(0,36)],.app 46 2 40 (.agg #[(.string ⟨#[]⟩),(.slice none 0 0)]) 35 37,.fadd 4 9]
def c20r9z : GOp:=⟨none,.store 1 39 38,none⟩
def c20r10 : List GOp:=gS 40 [.load 5 true 9,.call 50 [40],.un .not 41]
def c20r11 : List GOp:=gS 6 [.mv (ci 20)]
def c20r12 : List GOp:=gS 43 [.mv 0,.mv 7,.load 5 true 9,.call 49 [43,44,45,(ci 0)]]
def c20r13 : List GOp:=gS 6 [.mv (ci 0)]
def c20 : EFn:=⟨47,.seq (.reg c20r0) (.seq (.seq (.reg c20r1) (.cond 11 (.seq (.reg c20r2) (.ret)) (.skip))) (.join (.reg c20r3) (.seq (.seq (.reg c20r4) (.cond 19 (.seq (.reg c20r5) (.ret)) (.skip))) (.seq (.reg c20r6) (.seq (.seq (.reg c20r7) (.cond 31 (.seq (.reg c20r8) (.ret)) (.skip))) (.seq (.hyl true true true 6 c20r9 c20r9z) (.seq (.seq (.reg c20r10) (.cond 42 (.seq (.reg c20r11) (.ret)) (.skip))) (.seq (.reg c20r12) (.seq (.reg c20r13) (.ret)))))))))),[.tmp 6]⟩
theorem c20_ok : compF Tryz.prog 20=some c20.er:=by kernel_rfl
set_option maxHeartbeats 8000000 in
theorem ref32_Registry_Pass_R {P:Program}(hP:P=Tryz.prog)(show0:Int)(places0:Int)(titles0:(List Title))(gone0:(List Int))(serial:Int)(x_:Transfer)(r:Int×(List Title)×(List Int))(h:ref32_Registry_Pass_b show0 places0 titles0 gone0 serial x_=some r):SCall P 20 [.cells [oi show0,oi places0,dq eTitle titles0,dq eIi64 gone0] 76] [.ptr 0 0,oi serial,.agg [.d (.val (.string x_.To)),dq eS x_.Sig]] (fun sv own'=>sv=oi r.1∧own'=[.cells [oi show0,oi places0,dq eTitle r.2.1,dq eIi64 r.2.2] 76]):=by
 refine .walkF 1 rfl (Nat.le_of_ble_eq_true rfl) (hP▸c20_ok) fun K hK=>?_;unfold ref32_Registry_Pass_b at h;cbv;refine .g h (fun ((i1,e2):Int×Int)=>[.ptr 0 0]++rp 4 .top++[.ptr 1 0,.top,oi i1,oi e2]++rp 38 .top) (fun (i1,e2)=>[.cells [oi show0,oi places0,dq eTitle titles0,dq eIi64 gone0] 76,.cells [.d (.val (.string x_.To)),dq eS x_.Sig] 46]) (fun y hm Kn1 hKn1=>?_) fun t h=>?_
 ·have h:=hm;clear hm;cbv;obtain⟨r3,hm,h⟩:=Option.bind_eq_some_iff.1 h;refine .embL [0] (ref32_Registry_find_R hP _ _ _ _ _ _ hm) mx fun sv0 own0 hq _=>?_;obtain⟨rfl,rfl⟩:=hq;clear hm;cbv;obtain rfl:=oj h;exact hKn1 _ _ _ rfl (.nz (.mtE [0,1] mx))
 obtain⟨i1,e2⟩:=t;cbv;refine brkG h ?_ ?_<;>intro h
 ·cbv;obtain rfl:=oj h;exact hK _ _ [] [0] mx
 ·cbv;refine .g h (fun _=>rfl) fun x4 h=>?_;cbv;refine brkG h ?_ ?_<;>intro h
  ·cbv;obtain rfl:=oj h;exact hK _ _ [] [0] mx
  ·cbv;refine .g (e:=eTransfer) h (W_nil' _) fun l5 h=>?_;cbv;refine .g h rfl (fun _=>rfl) (by decide) fun l6 h=>?_;cbv;refine .g (e:=eTransfer) h (W_cons aw_ (W_nil' _)) fun l7 h=>?_;cbv;refine .g h rfl (fun _=>rfl) (by decide) fun l8 h=>?_;cbv;refine .gl [] h (fun v hv=>ref30_Valid_R hP _ v hv) aw_ rfl fun v9 h=>?_;cbv;refine brkG h ?_ ?_<;>intro h
   ·cbv;obtain rfl:=oj h;exact hK _ _ [] [0] mx
   ·cbv;obtain⟨r10,hm,h⟩:=Option.bind_eq_some_iff.1 h;refine .embL [0] (ref32_Registry_put_R hP _ _ _ _ _ _ _ _ hm) mx fun sv0 own0 hq _=>?_;obtain⟨rfl,rfl⟩:=hq;clear hm;cbv;obtain rfl:=oj h;exact hK _ _ [] [0] mx
set_option maxHeartbeats 4000000 in
theorem ref32_Registry_Pass_nil_R {P:Program}(hP:P=Tryz.prog)(serial:Int)(x_:Transfer)(r:Int)(h:ref32_Registry_Pass_nil_g serial x_=some r):Fn1 P 20 [.d (.val (.pointer none)),vIi64 serial,vTransfer x_] (vIi64 r):=by
 refine .walkE (hP▸c20_ok) fun K hK=>?_;unfold ref32_Registry_Pass_nil_g at h;cbv;obtain rfl:=oj h;exact hK _ _ aw_
end Go.SX.Rg
namespace Go.SX.Rg
open Go Go.SX Go.Proofs
set_option maxRecDepth 100000
noncomputable def registry_Registry_Revoked_l2 (l2:(List Int))(titles0:(List (Int×Entry))):((List Int)×Int)→Option (((List Int)×Int) ⊕ ((List Int)))
 | (out3,v4) =>
 bif (io.lt v4 (io.len (W eIi64 l2))) then (
 Option.bind (
 Option.bind (rixG l2 v4) fun i6 =>
 Option.bind (l2[i6]?) fun v7 =>
 optG (mlook titles0 v7) (fun y8 =>
 bif (io.lt 0 y8.gone) then (
 Option.bind (some [v7]) fun l9 =>
 Option.bind (appG out3 l9) fun out10 =>
 some out10
 ) else (
 some out3
 )
 ) (
 bif (io.lt 0 0) then (
 Option.bind (some [v7]) fun l11 =>
 Option.bind (appG out3 l11) fun out12 =>
 some out12
 ) else (
 some out3
 )
 )
 ) fun out5 =>
 some (.inl (out5,(io.ar .add .i64 v4 1)))
 ) else (
 some (.inr out3)
 )
noncomputable def registry_Registry_Revoked_b (show0:Int)(places0:Int)(titles0:(List (Int×Entry)))(at0:(List (Int×Int))):Option ((List Int)) :=
 Option.bind (
 Option.bind (sortedKeys_g titles0) fun l2 =>
 whileG (registry_Registry_Revoked_l2 l2 titles0) ([],0)
 ) fun out1 =>
 some out1
noncomputable def registry_Registry_Revoked_nil_g : Option ((List Int)) :=
 some []
end Go.SX.Rg
namespace Go.SX.Rg
open Go Go.SX Go.Proofs
set_option maxRecDepth 100000
def c52r0 : List GOp:=gS 1 [.box 71 0,.mv (.const .nilFunc)]
def c52r1 : List GOp:=gS 3 [.mkfn (.func 91) [] [1]]++gS 2 [.mv 3]
def c52 : EFn:=⟨4,.seq (.reg c52r0) (.seq (.reg c52r1) (.ret)),[.tmp 2]⟩
theorem c52_ok : compF Tryz.prog 52=some c52.er:=by kernel_rfl
def c23r0 : List GOp:=gS 2 [.mv cn]
def c23r1 : List GOp:=gS 6 [.mv 0,.pnil false 6]
def c23r2 : List GOp:=gS 2 [.mv cn]
def c23r3 : List GOp:=gS 3 [.mv cn]
def c23r4 : List GOp:=gS 8 [.mv 0,.nilck 8,.fadd 2 9,.load 1 false 10,.call 52 [11],.call 51 [12],.len false 13,.mv (ci 0)]
def c23r5 : List GOp:=gS 16 [.bin .lss 15 14]
def c23r6 : List GOp:=gS 17 [.idxA 1 13 15,.load 1 false 17]++gS 5 [.mv 18]
def c23r7 : List GOp:=gS 19 [.mv 0,.nilck 19,.fadd 2 20,.load 1 false 21,.mv 5,.mget (.int .i64) true false (.agg #[oz,oz,oz,(.string ⟨#[]⟩),(.slice none 0 0),oz]) 22 23,.fld 5 1 false 24,.bin .gtr 25 (ci 0)]
def c23r8 : List GOp:=gS 27 [.mv 3,.mv 5,.bslice 3 1 1 oz [(0,28)],.app 3 1 8 oz 27 29]++gS 3 [.mv 30]
def c23r9 : List GOp:=gS 31 [.bin .add 15 (ci 1)]++gS 15 [.mv 31]
def c23l10 : DE:=.seq (.reg c23r5) (.seq (.cond 16 (.skip) (.exit 0)) (.join (.block 1 (.seq (.reg c23r6) (.seq (.reg c23r7) (.cond 26 (.reg c23r8) (.skip))))) (.reg c23r9)))
def c23r11 : List GOp:=gS 32 [.mv 3]++gS 2 [.mv 32]
def c23 : EFn:=⟨33,.seq (.reg c23r0) (.seq (.seq (.reg c23r1) (.cond 7 (.seq (.reg c23r2) (.ret)) (.skip))) (.seq (.reg c23r3) (.join (.seq (.reg c23r4) (.block 0 (.loop c23l10))) (.seq (.reg c23r11) (.ret))))),[.tmp 2]⟩
theorem c23_ok : compF Tryz.prog 23=some c23.er:=by kernel_rfl
set_option maxHeartbeats 8000000 in
theorem registry_Registry_Revoked_R {P:Program}(hP:P=Tryz.prog)(show0:Int)(places0:Int)(titles0:(List (Int×Entry)))(at0:(List (Int×Int)))(r:(List Int))(h:registry_Registry_Revoked_b show0 places0 titles0 at0=some r):SCall P 23 [.cells [oi show0,oi places0,.hd 1,.hd 2] 74,.mp (.int .i64) true (WM (Value.int .i64) eEntry titles0),.mp (.int .i64) false (WM (Value.int .i64) eIi64 at0)] [.ptr 0 0] (fun sv own'=>sv=dq eIi64 r∧own'=[.cells [oi show0,oi places0,.hd 1,.hd 2] 74,.mp (.int .i64) true (WM (Value.int .i64) eEntry titles0),.mp (.int .i64) false (WM (Value.int .i64) eIi64 at0)]):=by
 refine .walkF 3 rfl (Nat.le_of_ble_eq_true rfl) (hP▸c23_ok) fun K hK=>?_;unfold registry_Registry_Revoked_b at h;cbv;refine .g h (fun (out1:(List Int))=>rp 3 .top++[.hd 3]++rp 29 .top) (fun out1=>[.cells [oi show0,oi places0,.hd 1,.hd 2] 74,.mp (.int .i64) true (WM (Value.int .i64) eEntry titles0),.mp (.int .i64) false (WM (Value.int .i64) eIi64 at0),rB out1]) (fun y hm Kn1 hKn1=>?_) fun t h=>?_
 ·have h:=hm;clear hm;cbv;refine .inl (hP▸c52_ok) ?_;cbv;obtain⟨l2,hm,h⟩:=Option.bind_eq_some_iff.1 h;refine .emb [1,3] (sortedKeys_O hP _ _ hm) mx fun sv0 own0 hq _=>?_;obtain⟨rfl,rfl⟩:=hq;clear hm;cbv;refine .g h (fun ((out3,v4):(List Int)×Int)=>[.ptr 0 0,.top,.top,.hd 3]++rp 9 .top++[.hd 4,oi (io.len (W eIi64 l2)),oi v4]++rp 17 .top) (fun (out3,v4)=>[.cells [oi show0,oi places0,.hd 1,.hd 2] 74,.mp (.int .i64) true (WM (Value.int .i64) eEntry titles0),.mp (.int .i64) false (WM (Value.int .i64) eIi64 at0),rB out3,rB l2]) (.nilr 3 3 1 rfl (.nz (.mtE [0,1,2,5,4] ?_))) fun s x h hr2 Kn2 hKn2=>?_
  ·exact mx
  unfold registry_Registry_Revoked_l2 at h;obtain⟨out3,v4⟩:=s;cbv;refine brkG h ?_ ?_<;>intro h
  ·cbv;refine .g h (fun (out5:(List Int))=>[.ptr 0 0,.top,.top,.hd 3]++rp 9 .top++[.hd 4,oi (io.len (W eIi64 l2)),oi v4]++rp 17 .top) (fun out5=>[.cells [oi show0,oi places0,.hd 1,.hd 2] 74,.mp (.int .i64) true (WM (Value.int .i64) eEntry titles0),.mp (.int .i64) false (WM (Value.int .i64) eIi64 at0),rB out5,rB l2]) (fun y hm Kn3 hKn3=>?_) fun t h=>?_
   ·have h:=hm;clear hm;cbv;refine .g h fun i6 h=>?_;cbv;refine .g h fun v7 h=>?_;cbv;refine .oi (e:=eEntry) h (by first | rfl | exact WM_nil' _ _) (fun y8 h=>?_) (fun h=>?_)
    ·cbv;refine brkG h ?_ ?_<;>intro h
     ·cbv;refine .g (e:=eIi64) h (W_cons aw_ (W_nil' _)) fun l9 h=>?_;cbv;refine .g h rfl (fun _=>rfl) (by decide) fun out10 h=>?_;cbv;obtain rfl:=oj h;exact hKn3 _ _ _ rfl (.nz (.mtE [0,1,2,6,4] mx))
     ·cbv;obtain rfl:=oj h;exact hKn3 _ _ _ rfl (.nz (.mtE [0,1,2,3,4] mx))
    ·cbv;refine brkG h ?_ ?_<;>intro h
     ·cbv;refine .g (e:=eIi64) h (W_cons aw_ (W_nil' _)) fun l11 h=>?_;cbv;refine .g h rfl (fun _=>rfl) (by decide) fun out12 h=>?_;cbv;obtain rfl:=oj h;exact hKn3 _ _ _ rfl (.nz (.mtE [0,1,2,6,4] mx))
     ·cbv;obtain rfl:=oj h;exact hKn3 _ _ _ rfl (.nz (.mtE [0,1,2,3,4] mx))
   obtain⟨out5,rfl⟩:=ez t;cbv;obtain rfl:=oj h;exact hKn2 _ _ _ rfl (.nz (.mtE [0,1,2,3,4] mx))
  ·cbv;obtain rfl:=oj h;obtain rfl:=hr2 _ rfl;exact hKn1 _ _ _ rfl (.nz (.mtE [0,1,2,3] mx))
 obtain⟨out1,rfl⟩:=ez t;cbv;obtain rfl:=oj h;exact hK _ _ [.hd 3] [0,1,2] mx
set_option maxHeartbeats 4000000 in
theorem registry_Registry_Revoked_nil_R {P:Program}(hP:P=Tryz.prog)(r:(List Int))(h:registry_Registry_Revoked_nil_g=some r):Fn1 P 23 [.d (.val (.pointer none))] (vLIi64 r):=by
 refine .walkE (hP▸c23_ok) fun K hK=>?_;unfold registry_Registry_Revoked_nil_g at h;cbv;obtain rfl:=oj h;exact hK _ _ aw_
end Go.SX.Rg
namespace Go.SX.Rg
open Go Go.SX Go.Proofs
set_option maxRecDepth 100000
end Go.SX.Rg
