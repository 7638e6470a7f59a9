/- Parts of the proof. -/
import Derived.Test.YtlpempbeenpilaaGreatDoorZRgT
import Derived.Test.YtlpempbeenpilaaGreatDoorZRg17d
import Derived.Test.YtlpempbeenpilaaGreatDoorZSyT
set_option linter.unusedSimpArgs false
set_option linter.unusedVariables false
set_option linter.unusedSectionVars false
namespace Go.SX.Rg
open Go Go.SX Go.Proofs
set_option maxRecDepth 100000
def c64r0 : List GOp:=gS 2 [.mv (.const (.string ⟨#[]⟩))]
def c64r1 : List GOp:=gS 3 [.mv (.const (.int .u64 7046029254386353131))]
def c64r2 : List GOp:=gS 4 [.mv (ci 0)]
def c64r3 : List GOp:=gS 9 [.mv 4,.mv 0,.len true 10,.bin .leq 9 11]
def c64r4 : List GOp:=gS 5 [.mv (.const (.int .u64 0))]
def c64r5 : List GOp:=gS 6 [.mv (ci 7)]
def c64r6 : List GOp:=gS 15 [.mv 6,.bin .geq 15 (ci 0)]
def c64r7 : List GOp:=gS 19 [.mv 5,.bin .mul 19 (.const (.int .u64 256))]++gS 5 [.mv 20]
def c64r8 : List GOp:=gS 21 [.mv 4,.mv 6,.bin .add 21 22,.mv 0,.len true 24,.bin .lss 23 25]
def c64r9 : List GOp:=gS 27 [.mv 5,.mv 0,.mv 4,.mv 6,.bin .add 29 30,.idxS 28 31,.cvi .u64 32,.bin .add 27 33]++gS 5 [.mv 34]
def c64r10 : List GOp:=gS 35 [.mv 4,.mv 6,.bin .add 35 36,.mv 0,.len true 38,.bin .eql 37 39]
def c64r11 : List GOp:=gS 41 [.mv 5,.bin .add 41 (.const (.int .u64 1))]++gS 5 [.mv 42]
def c64r12 : List GOp:=gS 17 [.mv 6,.bin .sub 17 (ci 1)]++gS 6 [.mv 18]
def c64l13 : DE:=.seq (.seq (.reg c64r6) (.cond 16 (.skip) (.exit 2))) (.join (.block 3 (.seq (.reg c64r7) (.join (.seq (.reg c64r8) (.cond 26 (.reg c64r9) (.skip))) (.seq (.reg c64r10) (.cond 40 (.reg c64r11) (.skip)))))) (.reg c64r12))
def c64r14 : List GOp:=gS 43 [.mv 3,.mv 5,.bin .xor 43 44,.call 101 [45]]++gS 3 [.mv 46]
def c64r15 : List GOp:=gS 13 [.mv 4,.bin .add 13 (ci 8)]++gS 4 [.mv 14]
def c64l16 : DE:=.seq (.seq (.reg c64r3) (.cond 12 (.skip) (.exit 0))) (.join (.block 1 (.seq (.reg c64r4) (.join (.seq (.reg c64r5) (.block 2 (.loop c64l13))) (.reg c64r14)))) (.reg c64r15))
def c64r17 : List GOp:=gS 7 [.mv (.const (.string ⟨#[]⟩))]
def c64r18 : List GOp:=gS 8 [.mv (ci 0)]
def c64r19 : List GOp:=gS 47 [.mv 8,.bin .lss 47 (ci 16)]
def c64r20 : List GOp:=gS 51 [.mv 3,.div .rem 51 (.const (.int .u64 16)),.mv 3,.div .rem 53 (.const (.int .u64 16)),.bin .add 54 (.const (.int .u64 1)),.slcS (.const (.string ⟨#[48,49,50,51,52,53,54,55,56,57,97,98,99,100,101,102]⟩)) (some 52) (some 55),.mv 7,.div .add 56 57]++gS 7 [.mv 58]
def c64r21 : List GOp:=gS 59 [.mv 3,.div .quo 59 (.const (.int .u64 16))]++gS 3 [.mv 60]
def c64r22 : List GOp:=gS 49 [.mv 8,.bin .add 49 (ci 1)]++gS 8 [.mv 50]
def c64l23 : DE:=.seq (.seq (.reg c64r19) (.cond 48 (.skip) (.exit 4))) (.seq (.block 5 (.seq (.reg c64r20) (.reg c64r21))) (.reg c64r22))
def c64r24 : List GOp:=gS 61 [.mv 7]++gS 2 [.mv 61]
def c64 : EFn:=⟨62,.seq (.reg c64r0) (.seq (.reg c64r1) (.join (.seq (.reg c64r2) (.block 0 (.loop c64l16))) (.seq (.reg c64r17) (.join (.seq (.reg c64r18) (.block 4 (.loop c64l23))) (.seq (.reg c64r24) (.ret)))))),[.tmp 2]⟩
theorem c64_ok : compF Tryz.prog 64=some c64.er:=by kernel_rfl
def c65r0 : List GOp:=gS 4 [.mv (.const (.string ⟨#[]⟩))]
def c65r1 : List GOp:=gS 5 [.mv (ci 0)]
def c65r2 : List GOp:=gS 6 [.mv 5,.mv 1,.mm false 7 [(ci 1000)],.bin .lss 6 8]
def c65r3 : List GOp:=gS 12 [.mv 0,.call 64 [12]]++gS 0 [.mv 13]
def c65r4 : List GOp:=gS 10 [.mv 5,.bin .add 10 (ci 1)]++gS 5 [.mv 11]
def c65l5 : DE:=.seq (.seq (.reg c65r2) (.cond 9 (.skip) (.exit 0))) (.join (.block 1 (.reg c65r3)) (.reg c65r4))
def c65r6 : List GOp:=gS 14 [.mv 0]++gS 4 [.mv 14]
def c65 : EFn:=⟨15,.seq (.reg c65r0) (.join (.seq (.reg c65r1) (.block 0 (.loop c65l5))) (.seq (.reg c65r6) (.ret))),[.tmp 4]⟩
theorem c65_ok : compF Tryz.prog 65=some c65.er:=by kernel_rfl
set_option maxHeartbeats 4000000 in
theorem ref02_Chain_R {P:Program}(hP:P=Tryz.prog)(text:ByteArray)(n:Int)(r:ByteArray)(h:ref02_Chain_g text n=some r):Fn1 P 65 [vS text,vIi64 n] (vS r):=by
 refine .walkE (hP▸c65_ok) fun K hK=>?_;unfold ref02_Chain_g at h;cbv;refine .g h (fun (text1:ByteArray)=>[.d (.val (.string text1))]++rp 14 .top) (fun text1=>[]) (fun y hm Kn1 hKn1=>?_) fun t h=>?_
 ·have h:=hm;clear hm;cbv;refine .g h (fun ((text2,i3):ByteArray×Int)=>[.d (.val (.string text2)),oi n]++rp 3 .top++[oi i3]++rp 9 .top) (fun (text2,i3)=>[]) (.nz (.mtE [] ?_)) fun s x h hr2 Kn2 hKn2=>?_
  ·exact mx
  unfold ref02_Chain_l282 at h;obtain⟨text2,i3⟩:=s;cbv;refine brkG h ?_ ?_<;>intro h
  ·cbv;refine .g h (fun (text4:ByteArray)=>[.d (.val (.string text4)),oi n]++rp 3 .top++[oi i3]++rp 9 .top) (fun text4=>[]) (fun y hm Kn3 hKn3=>?_) fun t h=>?_
   ·have h:=hm;clear hm;cbv;refine .inl (hP▸c64_ok) ?_;cbv;refine .g h (fun (state5:Int)=>rp 3 .top++[.d (.val (.int .u64 state5))]++rp 58 .top) (fun state5=>[]) (fun y hm Kn4 hKn4=>?_) fun t h=>?_
    ·have h:=hm;clear hm;cbv;refine .g h (fun ((state6,from7):Int×Int)=>[.d (.val (.string text2)),.top,.top,.d (.val (.int .u64 state6)),oi from7]++rp 57 .top) (fun (state6,from7)=>[]) (.nz (.mtE [] ?_)) fun s x h hr5 Kn5 hKn5=>?_
     ·exact mx
     unfold ref02_Chain_l332 at h;obtain⟨state6,from7⟩:=s;cbv;refine brkG h ?_ ?_<;>intro h
     ·cbv;refine .g h (fun (state8:Int)=>[.d (.val (.string text2)),.top,.top,.d (.val (.int .u64 state8)),oi from7]++rp 57 .top) (fun state8=>[]) (fun y hm Kn6 hKn6=>?_) fun t h=>?_
      ·have h:=hm;clear hm;cbv;refine .g h (fun (block9:Int)=>[.d (.val (.string text2)),.top,.top,.d (.val (.int .u64 state6)),oi from7,.d (.val (.int .u64 block9))]++rp 56 .top) (fun block9=>[]) (fun y hm Kn7 hKn7=>?_) fun t h=>?_
       ·have h:=hm;clear hm;cbv;refine .g h (fun ((block10,i11):Int×Int)=>[.d (.val (.string text2)),.top,.top,.d (.val (.int .u64 state6)),oi from7,.d (.val (.int .u64 block10)),oi i11]++rp 55 .top) (fun (block10,i11)=>[]) (.nz (.mtE [] ?_)) fun s x h hr8 Kn8 hKn8=>?_
        ·exact mx
        unfold ref02_Chain_l336 at h;obtain⟨block10,i11⟩:=s;cbv;refine brkG h ?_ ?_<;>intro h
        ·cbv;refine .g h (fun (block12:Int)=>[.d (.val (.string text2)),.top,.top,.d (.val (.int .u64 state6)),oi from7,.d (.val (.int .u64 block12)),oi i11]++rp 55 .top) (fun block12=>[]) (fun y hm Kn9 hKn9=>?_) fun t h=>?_
         ·have h:=hm;clear hm;cbv;refine .g h (fun (block13:Int)=>[.d (.val (.string text2)),.top,.top,.d (.val (.int .u64 state6)),oi from7,.d (.val (.int .u64 block13)),oi i11]++rp 55 .top) (fun block13=>[]) (fun y hm Kn10 hKn10=>?_) fun t h=>?_
          ·have h:=hm;clear hm;cbv;refine brkG h ?_ ?_<;>intro h
           ·cbv;refine .g h fun b14 h=>?_;cbv;obtain rfl:=oj h;exact hKn10 _ _ _ rfl (.nz (.mtE [] mx))
           ·cbv;obtain rfl:=oj h;exact hKn10 _ _ _ rfl (.nz (.mtE [] mx))
          obtain⟨block13,rfl⟩:=ez t;cbv;refine brkG h ?_ ?_<;>intro h
          ·cbv;obtain rfl:=oj h;exact hKn9 _ _ _ rfl (.nz (.mtE [] mx))
          ·cbv;obtain rfl:=oj h;exact hKn9 _ _ _ rfl (.nz (.mtE [] mx))
         obtain⟨block12,rfl⟩:=ez t;cbv;obtain rfl:=oj h;exact hKn8 _ _ _ rfl (.nz (.mtE [] mx))
        ·cbv;obtain rfl:=oj h;obtain rfl:=hr8 _ rfl;exact hKn7 _ _ _ rfl (.nz (.mtE [] mx))
       obtain⟨block9,rfl⟩:=ez t;cbv;refine .g h (fun v hv=>ref02_mix_R hP _ v hv) aw_ rfl (fun _=>rfl) fun n15 h=>?_;cbv;obtain rfl:=oj h;exact hKn6 _ _ _ rfl (.nz (.mtE [] mx))
      obtain⟨state8,rfl⟩:=ez t;cbv;obtain rfl:=oj h;exact hKn5 _ _ _ rfl (.nz (.mtE [] mx))
     ·cbv;obtain rfl:=oj h;obtain rfl:=hr5 _ rfl;exact hKn4 _ _ _ rfl (.nz (.mtE [] mx))
    obtain⟨state5,rfl⟩:=ez t;cbv;refine .g h (fun (s16:ByteArray)=>rp 7 .top++[.d (.val (.string s16))]++rp 54 .top) (fun s16=>[]) (fun y hm Kn4 hKn4=>?_) fun t h=>?_
    ·have h:=hm;clear hm;cbv;refine .g h (fun ((state17,s18,i19):Int×ByteArray×Int)=>rp 3 .top++[.d (.val (.int .u64 state17))]++rp 3 .top++[.d (.val (.string s18)),oi i19]++rp 53 .top) (fun (state17,s18,i19)=>[]) (.nz (.mtE [] ?_)) fun s x h hr5 Kn5 hKn5=>?_
     ·exact mx
     unfold ref02_Chain_l338 at h;obtain⟨state17,s18,i19⟩:=s;cbv;refine brkG h ?_ ?_<;>intro h
     ·cbv;refine .g h fun h=>?_;cbv;refine .g h fun h=>?_;cbv;refine .g h fun z20 h=>?_;cbv;refine .g h fun h=>?_;cbv;refine .g h fun h=>?_;cbv;obtain rfl:=oj h;exact hKn5 _ _ _ rfl (.nz (.mtE [] mx))
     ·cbv;obtain rfl:=oj h;obtain rfl:=hr5 _ rfl;exact hKn4 _ _ _ rfl (.nz (.mtE [] mx))
    obtain⟨s16,rfl⟩:=ez t;cbv;obtain rfl:=oj h;exact hKn3 _ _ _ rfl (.nz (.mtE [] mx))
   obtain⟨text4,rfl⟩:=ez t;cbv;obtain rfl:=oj h;exact hKn2 _ _ _ rfl (.nz (.mtE [] mx))
  ·cbv;obtain rfl:=oj h;obtain rfl:=hr2 _ rfl;exact hKn1 _ _ _ rfl (.nz (.mtE [] mx))
 obtain⟨text1,rfl⟩:=ez t;cbv;obtain rfl:=oj h;exact hK _ _ aw_
end Go.SX.Rg
namespace Go.SX.Rg
open Go Go.SX Go.Proofs
set_option maxRecDepth 100000
set_option maxHeartbeats 4000000 in
theorem ref02_Sum_R {P:Program}(hP:P=Tryz.prog)(text:ByteArray)(r:ByteArray)(h:ref02_Sum_g text=some r):Fn1 P 64 [vS text] (vS r):=by
 refine .walkE (hP▸c64_ok) fun K hK=>?_;unfold ref02_Sum_g at h;cbv;refine .g h (fun (state1:Int)=>rp 3 .top++[.d (.val (.int .u64 state1))]++rp 58 .top) (fun state1=>[]) (fun y hm Kn1 hKn1=>?_) fun t h=>?_
 ·have h:=hm;clear hm;cbv;refine .g h (fun ((state2,from3):Int×Int)=>[.d (.val (.string text)),.top,.top,.d (.val (.int .u64 state2)),oi from3]++rp 57 .top) (fun (state2,from3)=>[]) (.nz (.mtE [] ?_)) fun s x h hr2 Kn2 hKn2=>?_
  ·exact mx
  unfold ref02_Sum_l22 at h;obtain⟨state2,from3⟩:=s;cbv;refine brkG h ?_ ?_<;>intro h
  ·cbv;refine .g h (fun (state4:Int)=>[.d (.val (.string text)),.top,.top,.d (.val (.int .u64 state4)),oi from3]++rp 57 .top) (fun state4=>[]) (fun y hm Kn3 hKn3=>?_) fun t h=>?_
   ·have h:=hm;clear hm;cbv;refine .g h (fun (block5:Int)=>[.d (.val (.string text)),.top,.top,.d (.val (.int .u64 state2)),oi from3,.d (.val (.int .u64 block5))]++rp 56 .top) (fun block5=>[]) (fun y hm Kn4 hKn4=>?_) fun t h=>?_
    ·have h:=hm;clear hm;cbv;refine .g h (fun ((block6,i7):Int×Int)=>[.d (.val (.string text)),.top,.top,.d (.val (.int .u64 state2)),oi from3,.d (.val (.int .u64 block6)),oi i7]++rp 55 .top) (fun (block6,i7)=>[]) (.nz (.mtE [] ?_)) fun s x h hr5 Kn5 hKn5=>?_
     ·exact mx
     unfold ref02_Sum_l26 at h;obtain⟨block6,i7⟩:=s;cbv;refine brkG h ?_ ?_<;>intro h
     ·cbv;refine .g h (fun (block8:Int)=>[.d (.val (.string text)),.top,.top,.d (.val (.int .u64 state2)),oi from3,.d (.val (.int .u64 block8)),oi i7]++rp 55 .top) (fun block8=>[]) (fun y hm Kn6 hKn6=>?_) fun t h=>?_
      ·have h:=hm;clear hm;cbv;refine .g h (fun (block9:Int)=>[.d (.val (.string text)),.top,.top,.d (.val (.int .u64 state2)),oi from3,.d (.val (.int .u64 block9)),oi i7]++rp 55 .top) (fun block9=>[]) (fun y hm Kn7 hKn7=>?_) fun t h=>?_
       ·have h:=hm;clear hm;cbv;refine brkG h ?_ ?_<;>intro h
        ·cbv;refine .g h fun b10 h=>?_;cbv;obtain rfl:=oj h;exact hKn7 _ _ _ rfl (.nz (.mtE [] mx))
        ·cbv;obtain rfl:=oj h;exact hKn7 _ _ _ rfl (.nz (.mtE [] mx))
       obtain⟨block9,rfl⟩:=ez t;cbv;refine brkG h ?_ ?_<;>intro h
       ·cbv;obtain rfl:=oj h;exact hKn6 _ _ _ rfl (.nz (.mtE [] mx))
       ·cbv;obtain rfl:=oj h;exact hKn6 _ _ _ rfl (.nz (.mtE [] mx))
      obtain⟨block8,rfl⟩:=ez t;cbv;obtain rfl:=oj h;exact hKn5 _ _ _ rfl (.nz (.mtE [] mx))
     ·cbv;obtain rfl:=oj h;obtain rfl:=hr5 _ rfl;exact hKn4 _ _ _ rfl (.nz (.mtE [] mx))
    obtain⟨block5,rfl⟩:=ez t;cbv;refine .g h (fun v hv=>ref02_mix_R hP _ v hv) aw_ rfl (fun _=>rfl) fun state11 h=>?_;cbv;obtain rfl:=oj h;exact hKn3 _ _ _ rfl (.nz (.mtE [] mx))
   obtain⟨state4,rfl⟩:=ez t;cbv;obtain rfl:=oj h;exact hKn2 _ _ _ rfl (.nz (.mtE [] mx))
  ·cbv;obtain rfl:=oj h;obtain rfl:=hr2 _ rfl;exact hKn1 _ _ _ rfl (.nz (.mtE [] mx))
 obtain⟨state1,rfl⟩:=ez t;cbv;refine .g h (fun (s12:ByteArray)=>rp 7 .top++[.d (.val (.string s12))]++rp 54 .top) (fun s12=>[]) (fun y hm Kn1 hKn1=>?_) fun t h=>?_
 ·have h:=hm;clear hm;cbv;refine .g h (fun ((state13,s14,i15):Int×ByteArray×Int)=>rp 3 .top++[.d (.val (.int .u64 state13))]++rp 3 .top++[.d (.val (.string s14)),oi i15]++rp 53 .top) (fun (state13,s14,i15)=>[]) (.nz (.mtE [] ?_)) fun s x h hr2 Kn2 hKn2=>?_
  ·exact mx
  unfold ref02_Sum_l28 at h;obtain⟨state13,s14,i15⟩:=s;cbv;refine brkG h ?_ ?_<;>intro h
  ·cbv;refine .g h fun h=>?_;cbv;refine .g h fun h=>?_;cbv;refine .g h fun z16 h=>?_;cbv;refine .g h fun h=>?_;cbv;refine .g h fun h=>?_;cbv;obtain rfl:=oj h;exact hKn2 _ _ _ rfl (.nz (.mtE [] mx))
  ·cbv;obtain rfl:=oj h;obtain rfl:=hr2 _ rfl;exact hKn1 _ _ _ rfl (.nz (.mtE [] mx))
 obtain⟨s12,rfl⟩:=ez t;cbv;obtain rfl:=oj h;exact hK _ _ aw_
end Go.SX.Rg
namespace Go.SX.Rg
open Go Go.SX Go.Proofs
set_option maxRecDepth 100000
def c126r0 : List GOp:=gS 2 [.mv (.const (.string ⟨#[]⟩))]
def c126r1 : List GOp:=gS 4 [.mv 0,.bin .lss 4 (ci 0)]
def c126r2 : List GOp:=gS 6 [.mv 0,.div .quo 6 (ci 10),.bin .eql 7 (ci 0)]
def c126r3 : List GOp:=gS 9 [.mv 0,.un .neg 9,.call 126 [10],.div .add (.const (.string ⟨#[45]⟩)) 11]++gS 2 [.mv 12]
def c126r4 : List GOp:=gS 13 [.mv 0,.div .quo 13 (ci 10),.call 126 [14],.mv 0,.div .rem 16 (ci 10),.un .neg 17,.call 126 [18],.div .add 15 19]++gS 2 [.mv 20]
def c126r5 : List GOp:=gS 3 [.mv (.const (.string ⟨#[48,49,50,51,52,53,54,55,56,57]⟩))]
def c126r6 : List GOp:=gS 21 [.mv 0,.bin .lss 21 (ci 10)]
def c126r7 : List GOp:=gS 23 [.mv 3,.mv 0,.mv 0,.bin .add 25 (ci 1),.slcS 23 (some 24) (some 26)]++gS 2 [.mv 27]
def c126r8 : List GOp:=gS 28 [.mv 0,.div .quo 28 (ci 10),.call 126 [29],.mv 3,.mv 0,.div .rem 32 (ci 10),.mv 0,.div .rem 34 (ci 10),.bin .add 35 (ci 1),.slcS 31 (some 33) (some 36),.div .add 30 37]++gS 2 [.mv 38]
def c126 : EFn:=⟨39,.seq (.reg c126r0) (.seq (.seq (.reg c126r1) (.cond 5 (.seq (.seq (.reg c126r2) (.cond 8 (.seq (.reg c126r3) (.ret)) (.skip))) (.seq (.reg c126r4) (.ret))) (.skip))) (.seq (.reg c126r5) (.seq (.seq (.reg c126r6) (.cond 22 (.seq (.reg c126r7) (.ret)) (.skip))) (.seq (.par false false false true 10 c126r8) (.ret))))),[.tmp 2]⟩
theorem c126_ok : compF Tryz.prog 126=some c126.er:=by kernel_rfl
set_option maxHeartbeats 4000000 in
theorem ref30_decimal_bR {P:Program}(hP:P=Tryz.prog)(rec:Int→Option (ByteArray))(hrec:∀ x0 v,rec x0=some v→Fn1 P 126 [vIi64 x0] (vS v))(n:Int)(r:ByteArray)(h:ref30_decimal_b rec n=some r):Fn1 P 126 [vIi64 n] (vS r):=by
 refine .walkE (hP▸c126_ok) fun K hK=>?_;unfold ref30_decimal_b at h;cbv;refine brkG h ?_ ?_<;>intro h
 ·cbv;refine .g h fun h=>?_;cbv;refine brkG h ?_ ?_<;>intro h
  ·cbv;refine .g h (fun v hv=>hrec _ v hv) aw_ rfl (fun _=>rfl) fun v1 h=>?_;cbv;refine .g h fun h=>?_;cbv;obtain rfl:=oj h;exact hK _ _ aw_
  ·cbv;refine .g h fun h=>?_;cbv;refine .g h (fun v hv=>hrec _ v hv) aw_ rfl (fun _=>rfl) fun v2 h=>?_;cbv;refine .g h fun h=>?_;cbv;refine .g h (fun v hv=>hrec _ v hv) aw_ rfl (fun _=>rfl) fun v3 h=>?_;cbv;refine .g h fun h=>?_;cbv;obtain rfl:=oj h;exact hK _ _ aw_
 ·cbv;refine brkG h ?_ ?_<;>intro h
  ·cbv;refine .g h fun z4 h=>?_;cbv;obtain rfl:=oj h;exact hK _ _ aw_
  ·cbv;refine .g h fun h=>?_;cbv;refine .g h (fun v hv=>hrec _ v hv) aw_ rfl (fun _=>rfl) fun v5 h=>?_;cbv;refine .g h fun h=>?_;cbv;refine .g h fun h=>?_;cbv;refine .g h fun z6 h=>?_;cbv;refine .g h fun h=>?_;cbv;obtain rfl:=oj h;exact hK _ _ aw_
theorem ref30_decimal_nR {P:Program}(hP:P=Tryz.prog):∀ (n:Nat) x0 v,ref30_decimal_n n x0=some v→Fn1 P 126 [vIi64 x0] (vS v)
 | 0,_,_,h=>by cases h
 | n+1,x0,v,h=>ref30_decimal_bR hP _ (ref30_decimal_nR hP n) x0 v h
theorem ref30_decimal_R {P:Program}(hP:P=Tryz.prog)(x0:Int)(r:ByteArray)(h:ref30_decimal_g x0=some r):Fn1 P 126 [vIi64 x0] (vS r):=ref30_decimal_nR hP 40 x0 r h
end Go.SX.Rg
namespace Go.SX.Rg
open Go Go.SX Go.Proofs
set_option maxRecDepth 100000
def c109r0 : List GOp:=gS 2 [.box 35 0]++gS 4 [.mv cn]
def c109r1 : List GOp:=gS 7 [.fadd 0 2,.load 1 false 7,.call 126 [8],.fadd 1 2,.load 1 false 10,.call 126 [11],.fadd 3 2,.load 1 false 13]
def c109r1z : List GOp:=gS 15 [.bslice 9 1 3 (.string ⟨#[]⟩) [(0,9),(1,12),(2,14)]]++gS 5 [.mv 15]
def c109r2 : List GOp:=gS 6 [.mv (ci 0)]
def c109r3 : List GOp:=gS 16 [.mv 6,.fadd 4 2,.load 1 false 17,.len false 18,.bin .lss 16 19]
def c109r4 : List GOp:=gS 23 [.mv 5,.fadd 4 2,.load 1 false 24,.mv 6,.idxA 2 25 26,.fadd 0 27,.load 1 false 28,.bslice 9 1 1 (.string ⟨#[]⟩) [(0,29)],.app 9 1 16 (.string ⟨#[]⟩) 23 30]++gS 5 [.mv 31]
def c109r5 : List GOp:=gS 21 [.mv 6,.bin .add 21 (ci 1)]++gS 6 [.mv 22]
def c109l6 : DE:=.seq (.seq (.reg c109r3) (.cond 20 (.skip) (.exit 0))) (.seq (.block 1 (.reg c109r4)) (.reg c109r5))
def c109r7 : List GOp:=gS 32 [.mv 5,.mv 1,.bslice 9 1 1 (.string ⟨#[]⟩) [(0,33)],.app 9 1 16 (.string ⟨#[]⟩) 32 34]++gS 4 [.mv 35]
def c109 : EFn:=⟨36,.seq (.reg c109r0) (.seq (.sfx false false false true c109r1 c109r1z) (.join (.seq (.reg c109r2) (.block 0 (.loop c109l6))) (.seq (.reg c109r7) (.ret)))),[.tmp 4]⟩
theorem c109_ok : compF Tryz.prog 109=some c109.er:=by kernel_rfl
set_option maxHeartbeats 4000000 in
theorem ref30_Fields_R {P:Program}(hP:P=Tryz.prog)(t_:Title)(to:ByteArray)(r:(List ByteArray))(h:ref30_Fields_g t_ to=some r):Fn1 P 109 [vTitle t_,vS to] (vLS r):=by
 refine .walkE (hP▸c109_ok) fun K hK=>?_;unfold ref30_Fields_g at h;cbv;refine .g h (fun v hv=>ref30_decimal_R hP _ v hv) aw_ rfl (fun _=>rfl) fun v1 h=>?_;cbv;refine .g h (fun v hv=>ref30_decimal_R hP _ v hv) aw_ rfl (fun _=>rfl) fun v2 h=>?_;cbv;refine .g (e:=eS) h (W_cons aw_ (W_cons aw_ (W_cons aw_ (W_nil' _)))) fun out3 h=>?_;cbv;refine .g h (fun (out4:(List ByteArray))=>[.top,.d (.val (.string to))]++rp 3 .top++[.hd 0]++rp 30 .top) (fun out4=>[rA out4]) (fun y hm Kn1 hKn1=>?_) fun t h=>?_
 ·have h:=hm;clear hm;cbv;refine .g h (fun ((out5,i6):(List ByteArray)×Int)=>[.top,.d (.val (.string to)),.ptr 0 0,.top,.top,.hd 1,oi i6]++rp 29 .top) (fun (out5,i6)=>[.cells [oi t_.Serial,oi t_.Show,oi t_.Place,.d (.val (.string t_.First)),dq eTransfer t_.Chain] 35,rA out5]) (.nz (.mtE [0,1] ?_)) fun s x h hr2 Kn2 hKn2=>?_
  ·exact mx
  unfold ref30_Fields_l2 at h;obtain⟨out5,i6⟩:=s;cbv;refine brkG h ?_ ?_<;>intro h
  ·cbv;refine .g h (fun _=>rfl) fun x7 h=>?_;cbv;refine .g (e:=eS) h (W_cons aw_ (W_nil' _)) fun l8 h=>?_;cbv;refine .g h rfl (fun _=>rfl) (by decide) fun out9 h=>?_;cbv;obtain rfl:=oj h;exact hKn2 _ _ _ rfl (.nz (.mtE [0,3] mx))
  ·cbv;obtain rfl:=oj h;obtain rfl:=hr2 _ rfl;exact hKn1 _ _ _ rfl (.nz (.mtE [1] mx))
 obtain⟨out4,rfl⟩:=ez t;cbv;refine .g (e:=eS) h (W_cons aw_ (W_nil' _)) fun l10 h=>?_;cbv;refine .g h rfl (fun _=>rfl) (by decide) fun l11 h=>?_;cbv;obtain rfl:=oj h;exact hK _ _ aw_
end Go.SX.Rg
namespace Go.SX.Rg
open Go Go.SX Go.Proofs
set_option maxRecDepth 100000
def c84r0 : List GOp:=gS 1 [.box 35 0,.mv (cB false)]
def c84r1 : List GOp:=gS 6 [.fadd 0 1,.load 1 false 6,.fadd 1 1,.load 1 false 8,.bin .add 9 (ci 1),.bin .mul 10 (ci 10000),.bin .sub 7 11]++gS 3 [.mv 12]
def c84r2 : List GOp:=gS 13 [.fadd 1 1,.load 1 false 13,.bin .lss 14 (ci 0),.mv 15]++gQ 16 false 17 [.fadd 1 1,.load 1 false 17,.bin .geq 18 (ci 20)]++gS 20 [.pick 16 (cB true) 19,.mv 20]++gQ 21 false 22 [.mv 3,.bin .lss 22 (ci 1)]++gS 24 [.pick 21 (cB true) 23,.mv 24]++gQ 25 false 26 [.mv 3,.bin .gtr 26 (ci 9999)]++gS 28 [.pick 25 (cB true) 27,.mv 28]++gQ 29 false 30 [.fadd 2 1,.load 1 false 30,.bin .lss 31 (ci (-1))]++gS 33 [.pick 29 (cB true) 32,.mv 33]++gQ 34 false 35 [.fadd 2 1,.load 1 false 35,.bin .geq 36 (ci 4000)]++gS 38 [.pick 34 (cB true) 37,.mv 38]++gQ 39 false 40 [.fadd 3 1,.load 1 false 40,.call 40 [41],.un .not 42]++gS 44 [.pick 39 (cB true) 43,.mv 44]++gQ 45 false 46 [.fadd 4 1,.load 1 false 46,.len false 47,.bin .gtr 48 (ci 50)]++gS 50 [.pick 45 (cB true) 49]
def c84r3 : List GOp:=gS 2 [.mv (cB false)]
def c84r4 : List GOp:=gS 4 [.mv (ci 0)]
def c84r5 : List GOp:=gS 51 [.mv 4,.fadd 4 1,.load 1 false 52,.len false 53,.bin .lss 51 54]
def c84r6 : List GOp:=gS 58 [.fadd 4 1,.load 1 false 58,.mv 4,.idxA 2 59 60,.fadd 0 61,.load 1 false 62,.call 40 [63],.un .not 64,.mv 65]++gQ 66 false 67 [.fadd 4 1,.load 1 false 67,.mv 4,.idxA 2 68 69,.fadd 1 70,.load 1 false 71,.len false 72,.bin .neq 73 (ci 18)]++gS 75 [.pick 66 (cB true) 74]
def c84r7 : List GOp:=gS 2 [.mv (cB false)]
def c84r8 : List GOp:=gS 5 [.mv (ci 0)]
def c84r9 : List GOp:=gS 76 [.mv 5,.bin .lss 76 (ci 18)]
def c84r10 : List GOp:=gS 80 [.fadd 4 1,.load 1 false 80,.mv 4,.idxA 2 81 82,.fadd 1 83,.load 1 false 84,.mv 5,.idxA 1 85 86,.load 1 false 87,.call 40 [88],.un .not 89]
def c84r11 : List GOp:=gS 2 [.mv (cB false)]
def c84r12 : List GOp:=gS 78 [.mv 5,.bin .add 78 (ci 1)]++gS 5 [.mv 79]
def c84l13 : DE:=.seq (.seq (.reg c84r9) (.cond 77 (.skip) (.exit 2))) (.seq (.block 3 (.seq (.reg c84r10) (.cond 90 (.seq (.reg c84r11) (.ret)) (.skip)))) (.reg c84r12))
def c84r14 : List GOp:=gS 56 [.mv 4,.bin .add 56 (ci 1)]++gS 4 [.mv 57]
def c84l15 : DE:=.seq (.seq (.reg c84r5) (.cond 55 (.skip) (.exit 0))) (.join (.block 1 (.seq (.join (.reg c84r6) (.cond 75 (.seq (.reg c84r7) (.ret)) (.skip))) (.seq (.reg c84r8) (.block 2 (.loop c84l13))))) (.reg c84r14))
def c84r16 : List GOp:=gS 2 [.mv (cB true)]
def c84 : EFn:=⟨91,.seq (.reg c84r0) (.seq (.reg c84r1) (.seq (.join (.reg c84r2) (.cond 50 (.seq (.reg c84r3) (.ret)) (.skip))) (.join (.seq (.reg c84r4) (.block 0 (.loop c84l15))) (.seq (.reg c84r16) (.ret))))),[.tmp 2]⟩
theorem c84_ok : compF Tryz.prog 84=some c84.er:=by kernel_rfl
set_option maxHeartbeats 4000000 in
theorem ref30_Formed_R {P:Program}(hP:P=Tryz.prog)(t_:Title)(r:Bool)(h:ref30_Formed_g t_=some r):Fn1 P 84 [vTitle t_] (vB r):=by
 refine .walkE (hP▸c84_ok) fun K hK=>?_;unfold ref30_Formed_g at h;cbv;refine .g h (fun (v1:Bool)=>[.top,.ptr 0 0]++rp 48 .top++[ob v1]++rp 40 .top) (fun v1=>[.cells [oi t_.Serial,oi t_.Show,oi t_.Place,.d (.val (.string t_.First)),dq eTransfer t_.Chain] 35]) (fun y hm Kn1 hKn1=>?_) fun t h=>?_
 ·have h:=hm;clear hm;cbv;refine brkG h ?_ ?_<;>intro h
  ·cbv;obtain rfl:=oj h;exact hKn1 _ _ _ rfl (.nz (.mtE [0] mx))
  ·cbv;refine brkG h ?_ ?_<;>intro h
   ·cbv;obtain rfl:=oj h;exact hKn1 _ _ _ rfl (.nz (.mtE [0] mx))
   ·cbv;refine brkG h ?_ ?_<;>intro h
    ·cbv;obtain rfl:=oj h;exact hKn1 _ _ _ rfl (.nz (.mtE [0] mx))
    ·cbv;refine brkG h ?_ ?_<;>intro h
     ·cbv;obtain rfl:=oj h;exact hKn1 _ _ _ rfl (.nz (.mtE [0] mx))
     ·cbv;refine brkG h ?_ ?_<;>intro h
      ·cbv;obtain rfl:=oj h;exact hKn1 _ _ _ rfl (.nz (.mtE [0] mx))
      ·cbv;refine brkG h ?_ ?_<;>intro h
       ·cbv;obtain rfl:=oj h;exact hKn1 _ _ _ rfl (.nz (.mtE [0] mx))
       ·cbv;refine .g h (fun v hv=>ref02_Is_R hP _ v hv) aw_ rfl (fun _=>rfl) fun v2 h=>?_;cbv;refine brkG h ?_ ?_<;>intro h
        ·cbv;obtain rfl:=oj h;exact hKn1 _ _ _ rfl (.nz (.mtE [0] mx))
        ·cbv;obtain rfl:=oj h;exact hKn1 _ _ _ rfl (.nz (.mtE [0] mx))
 obtain⟨v1,rfl⟩:=ez t;cbv;refine brkG h ?_ ?_<;>intro h
 ·cbv;obtain rfl:=oj h;exact hK _ _ aw_
 ·cbv;refine .ga h (fun (_:Unit)=>rp 91 .top) (fun _=>[]) (fun y hm hr1 Kn1 hKn1=>?_) fun t h=>?_
  ·have h:=hm;clear hm;cbv;refine .g h (fun (i3:Int)=>[.top,.ptr 0 0,.top,.top,oi i3]++rp 86 .top) (fun i3=>[.cells [oi t_.Serial,oi t_.Show,oi t_.Place,.d (.val (.string t_.First)),dq eTransfer t_.Chain] 35]) (.nz (.mtE [0] ?_)) fun s x h hr2 Kn2 hKn2=>?_
   ·exact mx
   unfold ref30_Formed_l12 at h;obtain⟨i3,rfl⟩:=ez s;cbv;refine brkG h ?_ ?_<;>intro h
   ·cbv;refine .ga h (fun (_:Unit)=>[.top,.ptr 0 0,.top,.top,oi i3]++rp 86 .top) (fun _=>[.cells [oi t_.Serial,oi t_.Show,oi t_.Place,.d (.val (.string t_.First)),dq eTransfer t_.Chain] 35]) (fun y hm hr3 Kn3 hKn3=>?_) fun t h=>?_
    ·have h:=hm;clear hm;cbv;refine .g h (fun (v4:Bool)=>[.top,.ptr 0 0,.top,.top,oi i3]++rp 70 .top++[ob v4]++rp 15 .top) (fun v4=>[.cells [oi t_.Serial,oi t_.Show,oi t_.Place,.d (.val (.string t_.First)),dq eTransfer t_.Chain] 35]) (fun y hm Kn4 hKn4=>?_) fun t h=>?_
     ·have h:=hm;clear hm;cbv;refine .g h (fun _=>rfl) fun x5 h=>?_;cbv;refine .g h (fun v hv=>ref02_Is_R hP _ v hv) aw_ rfl (fun _=>rfl) fun v6 h=>?_;cbv;refine brkG h ?_ ?_<;>intro h
      ·cbv;obtain rfl:=oj h;exact hKn4 _ _ _ rfl (.nz (.mtE [0] mx))
      ·cbv;refine .g h (fun _=>rfl) fun x7 h=>?_;cbv;obtain rfl:=oj h;exact hKn4 _ _ _ rfl (.nz (.mtE [0] mx))
     obtain⟨v4,rfl⟩:=ez t;cbv;refine brkG h ?_ ?_<;>intro h
     ·cbv;obtain rfl:=oj h;obtain rfl:=hr3 _ rfl;obtain rfl:=hr2 _ rfl;obtain rfl:=hr1 _ rfl;exact hK _ _ aw_
     ·cbv;refine .g h (fun (n8:Int)=>[.top,.ptr 0 0,.top,.top,oi i3,oi n8]++rp 85 .top) (fun n8=>[.cells [oi t_.Serial,oi t_.Show,oi t_.Place,.d (.val (.string t_.First)),dq eTransfer t_.Chain] 35]) (.nz (.mtE [0] ?_)) fun s x h hr4 Kn4 hKn4=>?_
      ·exact mx
      unfold ref30_Formed_l14 at h;obtain⟨n8,rfl⟩:=ez s;cbv;refine brkG h ?_ ?_<;>intro h
      ·cbv;refine .g h (fun _=>rfl) fun x9 h=>?_;cbv;refine .g h (fun _=>rfl) fun x10 h=>?_;cbv;refine .g h (fun v hv=>ref02_Is_R hP _ v hv) aw_ rfl (fun _=>rfl) fun v11 h=>?_;cbv;refine brkG h ?_ ?_<;>intro h
       ·cbv;obtain rfl:=oj h;obtain rfl:=hr4 _ rfl;obtain rfl:=hr3 _ rfl;obtain rfl:=hr2 _ rfl;obtain rfl:=hr1 _ rfl;exact hK _ _ aw_
       ·cbv;obtain rfl:=oj h;exact hKn4 _ _ _ rfl (.nz (.mtE [0] mx))
      ·cbv;obtain rfl:=oj h;obtain rfl:=hr4 _ rfl;exact hKn3 _ _ _ rfl (.nz (.mtE [0] mx))
    cbv;obtain rfl:=oj h;exact hKn2 _ _ _ rfl (.nz (.mtE [0] mx))
   ·cbv;obtain rfl:=oj h;obtain rfl:=hr2 _ rfl;exact hKn1 _ _ _ rfl (.nz (.mtE [] mx))
  cbv;obtain rfl:=oj h;exact hK _ _ aw_
end Go.SX.Rg
namespace Go.SX.Rg
open Go Go.SX Go.Proofs
set_option maxRecDepth 100000
def c85r0 : List GOp:=gS 2 [.box 35 0]++gS 4 [.alloc 35 (.agg #[oz,oz,oz,(.string ⟨#[]⟩),(.slice none 0 0)])]
def c85r1 : List GOp:=gS 5 [.fadd 4 2,.load 1 false 5,.mv 1,.slc 2 6 none (some 7),.fadd 4 2]++[⟨none,.store 1 9 8,none⟩]
def c85r2 : List GOp:=gS 10 [.load 5 true 2]++[⟨none,.store 5 4 10,none⟩]
def c85 : EFn:=⟨11,.seq (.reg c85r0) (.seq (.reg c85r1) (.seq (.reg c85r2) (.ret))),[.cell 4 5 true]⟩
theorem c85_ok : compF Tryz.prog 85=some c85.er:=by kernel_rfl
set_option maxHeartbeats 4000000 in
theorem ref30_Cut_R {P:Program}(hP:P=Tryz.prog)(t_:Title)(n:Int)(r:Title)(h:ref30_Cut_g t_ n=some r):Fn1 P 85 [vTitle t_,vIi64 n] (vTitle r):=by
 refine .walkE (hP▸c85_ok) fun K hK=>?_;unfold ref30_Cut_g at h;cbv;refine .g h (fun _=>rfl) fun l1 h=>?_;cbv;obtain rfl:=oj h;exact hK _ _ aw_
end Go.SX.Rg
namespace Go.SX.Rg
open Go Go.SX Go.Proofs
set_option maxRecDepth 100000
def c86r0 : List GOp:=gS 2 [.box 35 0]++gS 4 [.mv (cB false)]
def c86r1 : List GOp:=gS 6 [.fadd 3 2,.load 1 false 6,.mv 1,.bin .eql 7 8]
def c86r2 : List GOp:=gS 4 [.mv (cB true)]
def c86r3 : List GOp:=gS 5 [.mv (ci 0)]
def c86r4 : List GOp:=gS 10 [.mv 5,.fadd 4 2,.load 1 false 11,.len false 12,.bin .lss 10 13]
def c86r5 : List GOp:=gS 17 [.fadd 4 2,.load 1 false 17,.mv 5,.idxA 2 18 19,.fadd 0 20,.load 1 false 21,.mv 1,.bin .eql 22 23]
def c86r6 : List GOp:=gS 4 [.mv (cB true)]
def c86r7 : List GOp:=gS 15 [.mv 5,.bin .add 15 (ci 1)]++gS 5 [.mv 16]
def c86l8 : DE:=.seq (.seq (.reg c86r4) (.cond 14 (.skip) (.exit 0))) (.seq (.block 1 (.seq (.reg c86r5) (.cond 24 (.seq (.reg c86r6) (.ret)) (.skip)))) (.reg c86r7))
def c86r9 : List GOp:=gS 4 [.mv (cB false)]
def c86 : EFn:=⟨25,.seq (.reg c86r0) (.seq (.seq (.reg c86r1) (.cond 9 (.seq (.reg c86r2) (.ret)) (.skip))) (.join (.seq (.reg c86r3) (.block 0 (.loop c86l8))) (.seq (.reg c86r9) (.ret)))),[.tmp 4]⟩
theorem c86_ok : compF Tryz.prog 86=some c86.er:=by kernel_rfl
set_option maxHeartbeats 4000000 in
theorem ref30_Used_R {P:Program}(hP:P=Tryz.prog)(t_:Title)(key:ByteArray)(r:Bool)(h:ref30_Used_g t_ key=some r):Fn1 P 86 [vTitle t_,vS key] (vB r):=by
 refine .walkE (hP▸c86_ok) fun K hK=>?_;unfold ref30_Used_g at h;cbv;refine brkG h ?_ ?_<;>intro h
 ·cbv;obtain rfl:=oj h;exact hK _ _ aw_
 ·cbv;refine .ga h (fun (_:Unit)=>rp 25 .top) (fun _=>[]) (fun y hm hr1 Kn1 hKn1=>?_) fun t h=>?_
  ·have h:=hm;clear hm;cbv;refine .g h (fun (i1:Int)=>[.top,.d (.val (.string key)),.ptr 0 0,.top,.top,oi i1]++rp 19 .top) (fun i1=>[.cells [oi t_.Serial,oi t_.Show,oi t_.Place,.d (.val (.string t_.First)),dq eTransfer t_.Chain] 35]) (.nz (.mtE [0] ?_)) fun s x h hr2 Kn2 hKn2=>?_
   ·exact mx
   unfold ref30_Used_l2 at h;obtain⟨i1,rfl⟩:=ez s;cbv;refine brkG h ?_ ?_<;>intro h
   ·cbv;refine .g h (fun _=>rfl) fun x2 h=>?_;cbv;refine brkG h ?_ ?_<;>intro h
    ·cbv;obtain rfl:=oj h;obtain rfl:=hr2 _ rfl;obtain rfl:=hr1 _ rfl;exact hK _ _ aw_
    ·cbv;obtain rfl:=oj h;exact hKn2 _ _ _ rfl (.nz (.mtE [0] mx))
   ·cbv;obtain rfl:=oj h;obtain rfl:=hr2 _ rfl;exact hKn1 _ _ _ rfl (.nz (.mtE [] mx))
  cbv;obtain rfl:=oj h;exact hK _ _ aw_
end Go.SX.Rg
namespace Go.SX.Rg
open Go Go.SX Go.Proofs
set_option maxRecDepth 100000
def c87r0 : List GOp:=gS 1 [.box 35 0,.mv (.const (.string ⟨#[]⟩))]
def c87r1 : List GOp:=gS 3 [.fadd 4 1,.load 1 false 3,.len false 4,.bin .eql 5 (ci 0)]
def c87r2 : List GOp:=gS 7 [.fadd 3 1,.load 1 false 7]++gS 2 [.mv 8]
def c87r3 : List GOp:=gS 9 [.fadd 4 1,.load 1 false 9,.fadd 4 1,.load 1 false 11,.len false 12,.bin .sub 13 (ci 1),.idxA 2 10 14,.fadd 0 15,.load 1 false 16]++gS 2 [.mv 17]
def c87 : EFn:=⟨18,.seq (.reg c87r0) (.seq (.seq (.reg c87r1) (.cond 6 (.seq (.reg c87r2) (.ret)) (.skip))) (.seq (.reg c87r3) (.ret))),[.tmp 2]⟩
theorem c87_ok : compF Tryz.prog 87=some c87.er:=by kernel_rfl
set_option maxHeartbeats 4000000 in
theorem ref30_Owner_R {P:Program}(hP:P=Tryz.prog)(t_:Title)(r:ByteArray)(h:ref30_Owner_g t_=some r):Fn1 P 87 [vTitle t_] (vS r):=by
 refine .walkE (hP▸c87_ok) fun K hK=>?_;unfold ref30_Owner_g at h;cbv;refine brkG h ?_ ?_<;>intro h
 ·cbv;obtain rfl:=oj h;exact hK _ _ aw_
 ·cbv;refine .g h (fun _=>rfl) fun x1 h=>?_;cbv;obtain rfl:=oj h;exact hK _ _ aw_
end Go.SX.Rg
namespace Go.SX.Rg
open Go Go.SX Go.Proofs
set_option maxRecDepth 100000
noncomputable def ref11_Ints_l2 (a:(List Int))(b:(List Int)):Int→Option ((Int) ⊕ ((Unit) ⊕ (Bool)))
 | i1 =>
 bif (io.lt i1 (io.len (W eIi64 a))) then (
 Option.bind (idxG a i1) fun x2 =>
 Option.bind (idxG b i1) fun x3 =>
 bif (io.not (io.eq x2 x3)) then (
 some (.inr (.inr false))
 ) else (
 some (.inl (io.ar .add .i64 i1 1))
 )
 ) else (
 some (.inr (.inl ()))
 )
noncomputable def ref11_Ints_g (a:(List Int))(b:(List Int)):Option (Bool) :=
 bif (io.not (io.eq (io.len (W eIi64 a)) (io.len (W eIi64 b)))) then (
 some false
 ) else (
 orR (
 whileG (ref11_Ints_l2 a b) 0
 ) fun _ =>
 some true
 )
end Go.SX.Rg
namespace Go.SX.Rg
open Go Go.SX Go.Proofs
set_option maxRecDepth 100000
def c22r0 : List GOp:=gS 4 [.mv (cB false)]
def c22r1 : List GOp:=gS 6 [.mv 0,.len false 6,.mv 1,.len false 8,.bin .neq 7 9]
def c22r2 : List GOp:=gS 4 [.mv (cB false)]
def c22r3 : List GOp:=gS 5 [.mv (ci 0)]
def c22r4 : List GOp:=gS 11 [.mv 5,.mv 0,.len false 12,.bin .lss 11 13]
def c22r5 : List GOp:=gS 17 [.mv 0,.mv 5,.idxA 1 17 18,.load 1 false 19,.mv 1,.mv 5,.idxA 1 21 22,.load 1 false 23,.bin .neq 20 24]
def c22r6 : List GOp:=gS 4 [.mv (cB false)]
def c22r7 : List GOp:=gS 15 [.mv 5,.bin .add 15 (ci 1)]++gS 5 [.mv 16]
def c22l8 : DE:=.seq (.seq (.reg c22r4) (.cond 14 (.skip) (.exit 0))) (.seq (.block 1 (.seq (.par true true true true 8 c22r5) (.cond 25 (.seq (.reg c22r6) (.ret)) (.skip)))) (.reg c22r7))
def c22r9 : List GOp:=gS 4 [.mv (cB true)]
def c22 : EFn:=⟨26,.seq (.reg c22r0) (.seq (.seq (.reg c22r1) (.cond 10 (.seq (.reg c22r2) (.ret)) (.skip))) (.join (.seq (.reg c22r3) (.block 0 (.loop c22l8))) (.seq (.reg c22r9) (.ret)))),[.tmp 4]⟩
theorem c22_ok : compF Tryz.prog 22=some c22.er:=by kernel_rfl
set_option maxHeartbeats 4000000 in
theorem ref11_Ints_R {P:Program}(hP:P=Tryz.prog)(a:(List Int))(b:(List Int))(r:Bool)(h:ref11_Ints_g a b=some r):Fn1 P 22 [vLIi64 a,vLIi64 b] (vB r):=by
 refine .walkE (hP▸c22_ok) fun K hK=>?_;unfold ref11_Ints_g at h;cbv;refine brkG h ?_ ?_<;>intro h
 ·cbv;obtain rfl:=oj h;exact hK _ _ aw_
 ·cbv;refine .ga h (fun (_:Unit)=>rp 26 .top) (fun _=>[]) (fun y hm hr1 Kn1 hKn1=>?_) fun t h=>?_
  ·have h:=hm;clear hm;cbv;refine .g h (fun (i1:Int)=>[dq eIi64 a,dq eIi64 b]++rp 3 .top++[oi i1]++rp 20 .top) (fun i1=>[]) (.nz (.mtE [] ?_)) fun s x h hr2 Kn2 hKn2=>?_
   ·exact mx
   unfold ref11_Ints_l2 at h;obtain⟨i1,rfl⟩:=ez s;cbv;refine brkG h ?_ ?_<;>intro h
   ·cbv;refine .g h (fun _=>rfl) fun x2 h=>?_;cbv;refine .g h (fun _=>rfl) fun x3 h=>?_;cbv;refine brkG h ?_ ?_<;>intro h
    ·cbv;obtain rfl:=oj h;obtain rfl:=hr2 _ rfl;obtain rfl:=hr1 _ rfl;exact hK _ _ aw_
    ·cbv;obtain rfl:=oj h;exact hKn2 _ _ _ rfl (.nz (.mtE [] mx))
   ·cbv;obtain rfl:=oj h;obtain rfl:=hr2 _ rfl;exact hKn1 _ _ _ rfl (.nz (.mtE [] mx))
  cbv;obtain rfl:=oj h;exact hK _ _ aw_
end Go.SX.Rg
namespace Go.SX.Rg
open Go Go.SX Go.Proofs
set_option maxRecDepth 100000
noncomputable def ref32_Registry_Revoked_l2 (titles0:(List Title))(gone0:(List Int)):((List Int)×Int)→Option (((List Int)×Int) ⊕ ((List Int)))
 | (out2,i3) =>
 bif (io.lt i3 (io.len (W eTitle titles0))) then (
 Option.bind (
 Option.bind (idxG gone0 i3) fun x5 =>
 bif (io.lt 0 x5) then (
 Option.bind (idxG titles0 i3) fun x6 =>
 Option.bind (some [x6.Serial]) fun l7 =>
 Option.bind (appG out2 l7) fun out8 =>
 some out8
 ) else (
 some out2
 )
 ) fun out4 =>
 some (.inl (out4,(io.ar .add .i64 i3 1)))
 ) else (
 some (.inr out2)
 )
noncomputable def ref32_Registry_Revoked_b (show0:Int)(places0:Int)(titles0:(List Title))(gone0:(List Int)):Option ((List Int)) :=
 Option.bind (
 whileG (ref32_Registry_Revoked_l2 titles0 gone0) ([],0)
 ) fun out1 =>
 some out1
noncomputable def ref32_Registry_Revoked_nil_g : Option ((List Int)) :=
 some []
end Go.SX.Rg
namespace Go.SX.Rg
open Go Go.SX Go.Proofs
set_option maxRecDepth 100000
def c24r0 : List GOp:=gS 2 [.mv cn]
def c24r1 : List GOp:=gS 5 [.mv 0,.pnil false 5]
def c24r2 : List GOp:=gS 2 [.mv cn]
def c24r3 : List GOp:=gS 3 [.mv cn]
def c24r4 : List GOp:=gS 4 [.mv (ci 0)]
def c24r5 : List GOp:=gS 7 [.mv 4,.mv 0,.nilck 8,.fadd 2 9,.load 1 false 10,.len false 11,.bin .lss 7 12]
def c24r6 : List GOp:=gS 16 [.mv 0,.nilck 16,.fadd 3 17,.load 1 false 18,.mv 4,.idxA 1 19 20,.load 1 false 21,.bin .gtr 22 (ci 0)]
def c24r7 : List GOp:=gS 24 [.mv 3,.mv 0,.nilck 25,.fadd 2 26,.load 1 false 27,.mv 4,.idxA 5 28 29,.fadd 0 30,.load 1 false 31,.bslice 3 1 1 oz [(0,32)],.app 3 1 8 oz 24 33]++gS 3 [.mv 34]
def c24r8 : List GOp:=gS 14 [.mv 4,.bin .add 14 (ci 1)]++gS 4 [.mv 15]
def c24l9 : DE:=.seq (.seq (.reg c24r5) (.cond 13 (.skip) (.exit 0))) (.join (.block 1 (.seq (.reg c24r6) (.cond 23 (.reg c24r7) (.skip)))) (.reg c24r8))
def c24r10 : List GOp:=gS 35 [.mv 3]++gS 2 [.mv 35]
def c24 : EFn:=⟨36,.seq (.reg c24r0) (.seq (.seq (.reg c24r1) (.cond 6 (.seq (.reg c24r2) (.ret)) (.skip))) (.seq (.reg c24r3) (.join (.seq (.reg c24r4) (.block 0 (.loop c24l9))) (.seq (.reg c24r10) (.ret))))),[.tmp 2]⟩
theorem c24_ok : compF Tryz.prog 24=some c24.er:=by kernel_rfl
set_option maxHeartbeats 8000000 in
theorem ref32_Registry_Revoked_R {P:Program}(hP:P=Tryz.prog)(show0:Int)(places0:Int)(titles0:(List Title))(gone0:(List Int))(r:(List Int))(h:ref32_Registry_Revoked_b show0 places0 titles0 gone0=some r):SCall P 24 [.cells [oi show0,oi places0,dq eTitle titles0,dq eIi64 gone0] 76] [.ptr 0 0] (fun sv own'=>sv=dq eIi64 r∧own'=[.cells [oi show0,oi places0,dq eTitle titles0,dq eIi64 gone0] 76]):=by
 refine .walkF 1 rfl (Nat.le_of_ble_eq_true rfl) (hP▸c24_ok) fun K hK=>?_;unfold ref32_Registry_Revoked_b at h;cbv;refine .g h (fun (out1:(List Int))=>rp 3 .top++[.hd 1]++rp 32 .top) (fun out1=>[.cells [oi show0,oi places0,dq eTitle titles0,dq eIi64 gone0] 76,rB out1]) (fun y hm Kn1 hKn1=>?_) fun t h=>?_
 ·have h:=hm;clear hm;cbv;refine .g h (fun ((out2,i3):(List Int)×Int)=>[.ptr 0 0,.top,.top,.hd 1,oi i3]++rp 31 .top) (fun (out2,i3)=>[.cells [oi show0,oi places0,dq eTitle titles0,dq eIi64 gone0] 76,rB out2]) (.nilr 3 3 1 rfl (.nz (.mtE [0,1] ?_))) fun s x h hr2 Kn2 hKn2=>?_
  ·exact mx
  unfold ref32_Registry_Revoked_l2 at h;obtain⟨out2,i3⟩:=s;cbv;refine brkG h ?_ ?_<;>intro h
  ·cbv;refine .g h (fun (out4:(List Int))=>[.ptr 0 0,.top,.top,.hd 1,oi i3]++rp 31 .top) (fun out4=>[.cells [oi show0,oi places0,dq eTitle titles0,dq eIi64 gone0] 76,rB out4]) (fun y hm Kn3 hKn3=>?_) fun t h=>?_
   ·have h:=hm;clear hm;cbv;refine .g h (fun _=>rfl) fun x5 h=>?_;cbv;refine brkG h ?_ ?_<;>intro h
    ·cbv;refine .g h (fun _=>rfl) fun x6 h=>?_;cbv;refine .g (e:=eIi64) h (W_cons aw_ (W_nil' _)) fun l7 h=>?_;cbv;refine .g h rfl (fun _=>rfl) (by decide) fun out8 h=>?_;cbv;obtain rfl:=oj h;exact hKn3 _ _ _ rfl (.nz (.mtE [0,3] mx))
    ·cbv;obtain rfl:=oj h;exact hKn3 _ _ _ rfl (.nz (.mtE [0,1] mx))
   obtain⟨out4,rfl⟩:=ez t;cbv;obtain rfl:=oj h;exact hKn2 _ _ _ rfl (.nz (.mtE [0,1] mx))
  ·cbv;obtain rfl:=oj h;obtain rfl:=hr2 _ rfl;exact hKn1 _ _ _ rfl (.nz (.mtE [0,1] mx))
 obtain⟨out1,rfl⟩:=ez t;cbv;obtain rfl:=oj h;exact hK _ _ [.hd 1] [0] mx
set_option maxHeartbeats 4000000 in
theorem ref32_Registry_Revoked_nil_R {P:Program}(hP:P=Tryz.prog)(r:(List Int))(h:ref32_Registry_Revoked_nil_g=some r):Fn1 P 24 [.d (.val (.pointer none))] (vLIi64 r):=by
 refine .walkE (hP▸c24_ok) fun K hK=>?_;unfold ref32_Registry_Revoked_nil_g at h;cbv;obtain rfl:=oj h;exact hK _ _ aw_
end Go.SX.Rg
namespace Go.SX.Rg
open Go Go.SX Go.Proofs
set_option maxRecDepth 100000
noncomputable def registry_Registry_At_b (show0:Int)(places0:Int)(titles0:(List (Int×Entry)))(at0:(List (Int×Int)))(place:Int):Option (Int) :=
 Option.bind (some (mlookD at0 place 0)) fun y1 =>
 some y1
noncomputable def registry_Registry_At_nil_g (place:Int):Option (Int) :=
 some 0
end Go.SX.Rg
namespace Go.SX.Rg
open Go Go.SX Go.Proofs
set_option maxRecDepth 100000
def c25r0 : List GOp:=gS 4 [.mv (ci 0)]
def c25r1 : List GOp:=gS 5 [.mv 0,.pnil false 5]
def c25r2 : List GOp:=gS 4 [.mv (ci 0)]
def c25r3 : List GOp:=gS 7 [.mv 0,.nilck 7,.fadd 3 8,.load 1 false 9,.mv 1,.mget (.int .i64) false false oz 10 11]++gS 4 [.mv 12]
def c25 : EFn:=⟨13,.seq (.reg c25r0) (.seq (.seq (.reg c25r1) (.cond 6 (.seq (.reg c25r2) (.ret)) (.skip))) (.seq (.reg c25r3) (.ret))),[.tmp 4]⟩
theorem c25_ok : compF Tryz.prog 25=some c25.er:=by kernel_rfl
set_option maxHeartbeats 8000000 in
theorem registry_Registry_At_R {P:Program}(hP:P=Tryz.prog)(show0:Int)(places0:Int)(titles0:(List (Int×Entry)))(at0:(List (Int×Int)))(place:Int)(r:Int)(h:registry_Registry_At_b show0 places0 titles0 at0 place=some r):SCall P 25 [.cells [oi show0,oi places0,.hd 1,.hd 2] 74,.mp (.int .i64) true (WM (Value.int .i64) eEntry titles0),.mp (.int .i64) false (WM (Value.int .i64) eIi64 at0)] [.ptr 0 0,oi place] (fun sv own'=>sv=oi r∧own'=[.cells [oi show0,oi places0,.hd 1,.hd 2] 74,.mp (.int .i64) true (WM (Value.int .i64) eEntry titles0),.mp (.int .i64) false (WM (Value.int .i64) eIi64 at0)]):=by
 refine .walkF 3 rfl (Nat.le_of_ble_eq_true rfl) (hP▸c25_ok) fun K hK=>?_;unfold registry_Registry_At_b at h;cbv;refine .gi (e:=eIi64) h (by first | rfl | exact WM_nil' _ _) (fun h=>h) fun y1 h=>?_;cbv;obtain rfl:=oj h;exact hK _ _ [] [0,1,2] mx
set_option maxHeartbeats 4000000 in
theorem registry_Registry_At_nil_R {P:Program}(hP:P=Tryz.prog)(place:Int)(r:Int)(h:registry_Registry_At_nil_g place=some r):Fn1 P 25 [.d (.val (.pointer none)),vIi64 place] (vIi64 r):=by
 refine .walkE (hP▸c25_ok) fun K hK=>?_;unfold registry_Registry_At_nil_g at h;cbv;obtain rfl:=oj h;exact hK _ _ aw_
end Go.SX.Rg
namespace Go.SX.Rg
open Go Go.SX Go.Proofs
set_option maxRecDepth 100000
noncomputable def ref03_Same_l2 (a:(List ByteArray))(b:(List ByteArray)):Int→Option ((Int) ⊕ ((Unit) ⊕ (Bool)))
 | i1 =>
 bif (io.lt i1 (io.len (W eS a))) then (
 Option.bind (idxG a i1) fun x2 =>
 Option.bind (idxG b i1) fun x3 =>
 bif (io.not (io.seq x2 x3)) then (
 some (.inr (.inr false))
 ) else (
 some (.inl (io.ar .add .i64 i1 1))
 )
 ) else (
 some (.inr (.inl ()))
 )
noncomputable def ref03_Same_g (a:(List ByteArray))(b:(List ByteArray)):Option (Bool) :=
 bif (io.not (io.eq (io.len (W eS a)) (io.len (W eS b)))) then (
 some false
 ) else (
 orR (
 whileG (ref03_Same_l2 a b) 0
 ) fun _ =>
 some true
 )
end Go.SX.Rg
namespace Go.SX.Rg
open Go Go.SX Go.Proofs
set_option maxRecDepth 100000
noncomputable def ref30_Extends_l2 (b:Title)(a:Title):Int→Option ((Int) ⊕ ((Unit) ⊕ (Bool)))
 | i2 =>
 bif (io.lt i2 (io.len (W eTransfer b.Chain))) then (
 Option.bind (
 Option.bind (idxG a.Chain i2) fun x4 =>
 Option.bind (idxG b.Chain i2) fun x5 =>
 bif (io.not (io.seq x4.To x5.To)) then (
 some true
 ) else (
 Option.bind (idxG a.Chain i2) fun x6 =>
 Option.bind (idxG b.Chain i2) fun x7 =>
 Option.bind (ref03_Same_g x6.Sig x7.Sig) fun v8 =>
 some (io.not v8)
 )
 ) fun v3 =>
 bif v3 then (
 some (.inr (.inr false))
 ) else (
 some (.inl (io.ar .add .i64 i2 1))
 )
 ) else (
 some (.inr (.inl ()))
 )
noncomputable def ref30_Extends_g (a:Title)(b:Title):Option (Bool) :=
 Option.bind (
 bif (io.not (io.eq a.Serial b.Serial)) then (
 some true
 ) else (
 bif (io.not (io.eq a.Show b.Show)) then (
 some true
 ) else (
 bif (io.not (io.seq a.First b.First)) then (
 some true
 ) else (
 some (io.lt (io.len (W eTransfer a.Chain)) (io.len (W eTransfer b.Chain)))
 )
 )
 )
 ) fun v1 =>
 bif v1 then (
 some false
 ) else (
 orR (
 whileG (ref30_Extends_l2 b a) 0
 ) fun _ =>
 some true
 )
end Go.SX.Rg
namespace Go.SX.Rg
open Go Go.SX Go.Proofs
set_option maxRecDepth 100000
noncomputable def ref30_Same_g (a:Title)(b:Title):Option (Bool) :=
 Option.bind (ref30_Extends_g a b) fun v1 =>
 bif v1 then (
 Option.bind (ref30_Extends_g b a) fun v2 =>
 bif v2 then (
 some (io.eq a.Place b.Place)
 ) else (
 some false
 )
 ) else (
 some false
 )
end Go.SX.Rg
namespace Go.SX.Rg
open Go Go.SX Go.Proofs
set_option maxRecDepth 100000
def c92r0 : List GOp:=gS 4 [.mv (cB false)]
def c92r1 : List GOp:=gS 6 [.mv 0,.len false 6,.mv 1,.len false 8,.bin .neq 7 9]
def c92r2 : List GOp:=gS 4 [.mv (cB false)]
def c92r3 : List GOp:=gS 5 [.mv (ci 0)]
def c92r4 : List GOp:=gS 11 [.mv 5,.mv 0,.len false 12,.bin .lss 11 13]
def c92r5 : List GOp:=gS 17 [.mv 0,.mv 5,.idxA 1 17 18,.load 1 false 19,.mv 1,.mv 5,.idxA 1 21 22,.load 1 false 23,.bin .neq 20 24]
def c92r6 : List GOp:=gS 4 [.mv (cB false)]
def c92r7 : List GOp:=gS 15 [.mv 5,.bin .add 15 (ci 1)]++gS 5 [.mv 16]
def c92l8 : DE:=.seq (.seq (.reg c92r4) (.cond 14 (.skip) (.exit 0))) (.seq (.block 1 (.seq (.par true true true true 8 c92r5) (.cond 25 (.seq (.reg c92r6) (.ret)) (.skip)))) (.reg c92r7))
def c92r9 : List GOp:=gS 4 [.mv (cB true)]
def c92 : EFn:=⟨26,.seq (.reg c92r0) (.seq (.seq (.reg c92r1) (.cond 10 (.seq (.reg c92r2) (.ret)) (.skip))) (.join (.seq (.reg c92r3) (.block 0 (.loop c92l8))) (.seq (.reg c92r9) (.ret)))),[.tmp 4]⟩
theorem c92_ok : compF Tryz.prog 92=some c92.er:=by kernel_rfl
set_option maxHeartbeats 4000000 in
theorem ref03_Same_R {P:Program}(hP:P=Tryz.prog)(a:(List ByteArray))(b:(List ByteArray))(r:Bool)(h:ref03_Same_g a b=some r):Fn1 P 92 [vLS a,vLS b] (vB r):=by
 refine .walkE (hP▸c92_ok) fun K hK=>?_;unfold ref03_Same_g at h;cbv;refine brkG h ?_ ?_<;>intro h
 ·cbv;obtain rfl:=oj h;exact hK _ _ aw_
 ·cbv;refine .ga h (fun (_:Unit)=>rp 26 .top) (fun _=>[]) (fun y hm hr1 Kn1 hKn1=>?_) fun t h=>?_
  ·have h:=hm;clear hm;cbv;refine .g h (fun (i1:Int)=>[dq eS a,dq eS b]++rp 3 .top++[oi i1]++rp 20 .top) (fun i1=>[]) (.nz (.mtE [] ?_)) fun s x h hr2 Kn2 hKn2=>?_
   ·exact mx
   unfold ref03_Same_l2 at h;obtain⟨i1,rfl⟩:=ez s;cbv;refine brkG h ?_ ?_<;>intro h
   ·cbv;refine .g h (fun _=>rfl) fun x2 h=>?_;cbv;refine .g h (fun _=>rfl) fun x3 h=>?_;cbv;refine brkG h ?_ ?_<;>intro h
    ·cbv;obtain rfl:=oj h;obtain rfl:=hr2 _ rfl;obtain rfl:=hr1 _ rfl;exact hK _ _ aw_
    ·cbv;obtain rfl:=oj h;exact hKn2 _ _ _ rfl (.nz (.mtE [] mx))
   ·cbv;obtain rfl:=oj h;obtain rfl:=hr2 _ rfl;exact hKn1 _ _ _ rfl (.nz (.mtE [] mx))
  cbv;obtain rfl:=oj h;exact hK _ _ aw_
end Go.SX.Rg
namespace Go.SX.Rg
open Go Go.SX Go.Proofs
set_option maxRecDepth 100000
def c53r0 : List GOp:=gS 2 [.box 35 0,.box 35 1,.mv (cB false)]
def c53r1 : List GOp:=gS 6 [.fadd 0 2,.load 1 false 6,.fadd 0 3,.load 1 false 8,.bin .neq 7 9,.mv 10]++gQ 11 false 12 [.fadd 1 2,.load 1 false 12,.fadd 1 3,.load 1 false 14,.bin .neq 13 15]++gS 17 [.pick 11 (cB true) 16,.mv 17]++gQ 18 false 19 [.fadd 3 2,.load 1 false 19,.fadd 3 3,.load 1 false 21,.bin .neq 20 22]++gS 24 [.pick 18 (cB true) 23,.mv 24]++gQ 25 false 26 [.fadd 4 2,.load 1 false 26,.len false 27,.fadd 4 3,.load 1 false 29,.len false 30,.bin .lss 28 31]++gS 33 [.pick 25 (cB true) 32]
def c53r2 : List GOp:=gS 4 [.mv (cB false)]
def c53r3 : List GOp:=gS 5 [.mv (ci 0)]
def c53r4 : List GOp:=gS 34 [.mv 5,.fadd 4 3,.load 1 false 35,.len false 36,.bin .lss 34 37]
def c53r5 : List GOp:=gS 41 [.fadd 4 2,.load 1 false 41,.mv 5,.idxA 2 42 43,.fadd 0 44,.load 1 false 45,.fadd 4 3,.load 1 false 47,.mv 5,.idxA 2 48 49,.fadd 0 50,.load 1 false 51,.bin .neq 46 52,.mv 53]++gQ 54 false 55 [.fadd 4 2,.load 1 false 55,.mv 5,.idxA 2 56 57,.fadd 1 58,.load 1 false 59,.fadd 4 3,.load 1 false 61,.mv 5,.idxA 2 62 63,.fadd 1 64,.load 1 false 65,.call 92 [60,66],.un .not 67]++gS 69 [.pick 54 (cB true) 68]
def c53r6 : List GOp:=gS 4 [.mv (cB false)]
def c53r7 : List GOp:=gS 39 [.mv 5,.bin .add 39 (ci 1)]++gS 5 [.mv 40]
def c53l8 : DE:=.seq (.seq (.reg c53r4) (.cond 38 (.skip) (.exit 0))) (.seq (.block 1 (.join (.par false false false true 26 c53r5) (.cond 69 (.seq (.reg c53r6) (.ret)) (.skip)))) (.reg c53r7))
def c53r9 : List GOp:=gS 4 [.mv (cB true)]
def c53 : EFn:=⟨70,.seq (.reg c53r0) (.seq (.join (.reg c53r1) (.cond 33 (.seq (.reg c53r2) (.ret)) (.skip))) (.join (.seq (.reg c53r3) (.block 0 (.loop c53l8))) (.seq (.reg c53r9) (.ret)))),[.tmp 4]⟩
theorem c53_ok : compF Tryz.prog 53=some c53.er:=by kernel_rfl
set_option maxHeartbeats 4000000 in
theorem ref30_Extends_R {P:Program}(hP:P=Tryz.prog)(a:Title)(b:Title)(r:Bool)(h:ref30_Extends_g a b=some r):Fn1 P 53 [vTitle a,vTitle b] (vB r):=by
 refine .walkE (hP▸c53_ok) fun K hK=>?_;unfold ref30_Extends_g at h;cbv;refine .g h (fun (v1:Bool)=>[.top,.top,.ptr 0 0,.ptr 1 0]++rp 29 .top++[ob v1]++rp 36 .top) (fun v1=>[.cells [oi a.Serial,oi a.Show,oi a.Place,.d (.val (.string a.First)),dq eTransfer a.Chain] 35,.cells [oi b.Serial,oi b.Show,oi b.Place,.d (.val (.string b.First)),dq eTransfer b.Chain] 35]) (fun y hm Kn1 hKn1=>?_) fun t h=>?_
 ·have h:=hm;clear hm;cbv;refine brkG h ?_ ?_<;>intro h
  ·cbv;obtain rfl:=oj h;exact hKn1 _ _ _ rfl (.nz (.mtE [0,1] mx))
  ·cbv;refine brkG h ?_ ?_<;>intro h
   ·cbv;obtain rfl:=oj h;exact hKn1 _ _ _ rfl (.nz (.mtE [0,1] mx))
   ·cbv;refine brkG h ?_ ?_<;>intro h
    ·cbv;obtain rfl:=oj h;exact hKn1 _ _ _ rfl (.nz (.mtE [0,1] mx))
    ·cbv;obtain rfl:=oj h;exact hKn1 _ _ _ rfl (.nz (.mtE [0,1] mx))
 obtain⟨v1,rfl⟩:=ez t;cbv;refine brkG h ?_ ?_<;>intro h
 ·cbv;obtain rfl:=oj h;exact hK _ _ aw_
 ·cbv;refine .ga h (fun (_:Unit)=>rp 70 .top) (fun _=>[]) (fun y hm hr1 Kn1 hKn1=>?_) fun t h=>?_
  ·have h:=hm;clear hm;cbv;refine .g h (fun (i2:Int)=>[.top,.top,.ptr 0 0,.ptr 1 0,.top,oi i2]++rp 64 .top) (fun i2=>[.cells [oi a.Serial,oi a.Show,oi a.Place,.d (.val (.string a.First)),dq eTransfer a.Chain] 35,.cells [oi b.Serial,oi b.Show,oi b.Place,.d (.val (.string b.First)),dq eTransfer b.Chain] 35]) (.nz (.mtE [0,1] ?_)) fun s x h hr2 Kn2 hKn2=>?_
   ·exact mx
   unfold ref30_Extends_l2 at h;obtain⟨i2,rfl⟩:=ez s;cbv;refine brkG h ?_ ?_<;>intro h
   ·cbv;refine .g h (fun (v3:Bool)=>[.top,.top,.ptr 0 0,.ptr 1 0,.top,oi i2]++rp 63 .top++[ob v3]) (fun v3=>[.cells [oi a.Serial,oi a.Show,oi a.Place,.d (.val (.string a.First)),dq eTransfer a.Chain] 35,.cells [oi b.Serial,oi b.Show,oi b.Place,.d (.val (.string b.First)),dq eTransfer b.Chain] 35]) (fun y hm Kn3 hKn3=>?_) fun t h=>?_
    ·have h:=hm;clear hm;cbv;refine .g h (fun _=>rfl) fun x4 h=>?_;cbv;refine .g h (fun _=>rfl) fun x5 h=>?_;cbv;refine brkG h ?_ ?_<;>intro h
     ·cbv;obtain rfl:=oj h;exact hKn3 _ _ _ rfl (.nz (.mtE [0,1] mx))
     ·cbv;refine .g h (fun _=>rfl) fun x6 h=>?_;cbv;refine .g h (fun _=>rfl) fun x7 h=>?_;cbv;refine .g h (fun v hv=>ref03_Same_R hP _ _ v hv) aw_ rfl (fun _=>rfl) fun v8 h=>?_;cbv;obtain rfl:=oj h;exact hKn3 _ _ _ rfl (.nz (.mtE [0,1] mx))
    obtain⟨v3,rfl⟩:=ez t;cbv;refine brkG h ?_ ?_<;>intro h
    ·cbv;obtain rfl:=oj h;obtain rfl:=hr2 _ rfl;obtain rfl:=hr1 _ rfl;exact hK _ _ aw_
    ·cbv;obtain rfl:=oj h;exact hKn2 _ _ _ rfl (.nz (.mtE [0,1] mx))
   ·cbv;obtain rfl:=oj h;obtain rfl:=hr2 _ rfl;exact hKn1 _ _ _ rfl (.nz (.mtE [] mx))
  cbv;obtain rfl:=oj h;exact hK _ _ aw_
end Go.SX.Rg
namespace Go.SX.Rg
open Go Go.SX Go.Proofs
set_option maxRecDepth 100000
def c28r0 : List GOp:=gS 2 [.box 35 0,.box 35 1,.mv (cB false)]
def c28r1 : List GOp:=gS 5 [.load 5 true 2,.load 5 true 3,.call 53 [5,6],.mv 7]++gQ 8 true 9 [.load 5 true 3,.load 5 true 2,.call 53 [9,10]]++gS 12 [.pick 8 11 (cB false),.mv 12]++gQ 13 true 14 [.fadd 2 2,.load 1 false 14,.fadd 2 3,.load 1 false 16,.bin .eql 15 17]++gS 19 [.pick 13 18 (cB false)]++gS 4 [.mv 19]
def c28 : EFn:=⟨20,.seq (.reg c28r0) (.seq (.reg c28r1) (.ret)),[.tmp 4]⟩
theorem c28_ok : compF Tryz.prog 28=some c28.er:=by kernel_rfl
set_option maxHeartbeats 4000000 in
theorem ref30_Same_R {P:Program}(hP:P=Tryz.prog)(a:Title)(b:Title)(r:Bool)(h:ref30_Same_g a b=some r):Fn1 P 28 [vTitle a,vTitle b] (vB r):=by
 refine .walkE (hP▸c28_ok) fun K hK=>?_;unfold ref30_Same_g at h;cbv;refine .g h (fun v hv=>ref30_Extends_R hP _ _ v hv) aw_ rfl (fun _=>rfl) fun v1 h=>?_;cbv;refine brkG h ?_ ?_<;>intro h
 ·cbv;refine .g h (fun v hv=>ref30_Extends_R hP _ _ v hv) aw_ rfl (fun _=>rfl) fun v2 h=>?_;cbv;refine brkG h ?_ ?_<;>intro h
  ·cbv;obtain rfl:=oj h;exact hK _ _ aw_
  ·cbv;obtain rfl:=oj h;exact hK _ _ aw_
 ·cbv;obtain rfl:=oj h;exact hK _ _ aw_
end Go.SX.Rg
namespace Go.SX
open Go
variable [Tabs]{α ρ:Type}
def appH (xs ys:List α):Option (List α):=if xs.length+ys.length≤2199023255552 then some (xs++ys) else none
variable {e:α→List D}{r:ρ}
theorem AppE.gH {xs ys:List α}{d:List (List D)}{sz bytes:Nat}{k:List α→Option ρ}{K:List (List D)→Prop}(h:(appH xs ys).bind k=some r)(hd:d=W e ys)(hsz:∀ x,(e x).length=sz)(hb:bytes≤64)(hk:∀ zs,k zs=some r→K (W e zs)) :
  AppE (W e xs) d sz bytes K:=by
 unfold appH at h
 split at h
 ·rename_i h0
  subst hd
  refine⟨fun ds hd=>?_,?_,?_,?_⟩
  ·rw[W_eq] at hd;obtain⟨x,_,rfl⟩:=List.mem_map.1 hd;exact hsz x
  ·rw[W_len,W_len]
   exact Nat.le_trans (Nat.mul_le_mul h0 hb) (by decide)
  ·rw[W_len,W_len,maxLen];omega
  ·have:W e xs++W e ys=W e (xs++ys):=by rw[W_eq,W_eq,W_eq,List.map_append]
   rw[this];exact hk _ h
 ·cases h
end Go.SX
