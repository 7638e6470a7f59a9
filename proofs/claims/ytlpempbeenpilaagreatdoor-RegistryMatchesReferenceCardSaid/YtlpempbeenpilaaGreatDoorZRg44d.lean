/- Parts of the proof. -/
import Derived.Test.YtlpempbeenpilaaGreatDoorZRgT
import Derived.Test.YtlpempbeenpilaaGreatDoorZRg46d
import Derived.Test.YtlpempbeenpilaaGreatDoorZRgH1
import Derived.Test.YtlpempbeenpilaaGreatDoorZRgH0
set_option linter.unusedSimpArgs false
set_option linter.unusedVariables false
set_option linter.unusedSectionVars false
namespace Go.SX.Rg
open Go Go.SX Go.Proofs
set_option maxRecDepth 100000
noncomputable def digest_Sum_l50 : (Int×Int)→Option ((Int×Int) ⊕ (Int))
 | (x14,v15) =>
 bif (io.lt v15 2) then (
 Option.bind (
 Option.bind (pixG 2 v15) fun i17 =>
 some ((A2.mk (A2.mk 32 11400714819323198485) (A2.mk 29 13787848793156543929)).get i17)
 ) fun step16 =>
 Option.bind (shG step16.a0) fun _ =>
 Option.bind (math_bits_Mul64_g (io.ar .xor .u64 x14 (io.shr .u64 x14 step16.a0)) step16.a1) fun v18 =>
 some (.inl (v18.2,(io.ar .add .i64 v15 1)))
 ) else (
 some (.inr x14)
 )
noncomputable def digest_Sum_l42 (text:ByteArray):(Int×Int×Int×Int)→Option ((Int×Int×Int×Int) ⊕ (Int×Int×Int))
 | (s4,n5,add6,v7) =>
 bif (io.lt v7 (io.ssz text)) then (
 Option.bind (
 Option.bind (idxStr text v7) fun b11 =>
 Option.bind (shG (io.ar .mul .i64 8 n5)) fun _ =>
 bif (io.eq (io.ar .add .i64 n5 1) 8) then (
 Option.bind (
 Option.bind (
 whileG (digest_Sum_l50) ((io.ar .xor .u64 s4 (io.ar .or .u64 add6 (io.shl .u64 (io.wrap .u64 b11) (io.ar .mul .i64 8 n5)))),0)
 ) fun x13 =>
 some (io.ar .xor .u64 x13 (io.shr .u64 x13 (.ofNat 32)))
 ) fun c12 =>
 some (c12,0,0)
 ) else (
 some (s4,(io.ar .add .i64 n5 1),(io.ar .or .u64 add6 (io.shl .u64 (io.wrap .u64 b11) (io.ar .mul .i64 8 n5))))
 )
 ) fun (s8,n9,add10) =>
 some (.inl (s8,n9,add10,(io.ar .add .i64 v7 1)))
 ) else (
 some (.inr (s4,n5,add6))
 )
noncomputable def digest_Sum_l79 : (Int×Int)→Option ((Int×Int) ⊕ (Int))
 | (x25,v26) =>
 bif (io.lt v26 2) then (
 Option.bind (
 Option.bind (pixG 2 v26) fun i28 =>
 some ((A2.mk (A2.mk 32 11400714819323198485) (A2.mk 29 13787848793156543929)).get i28)
 ) fun step27 =>
 Option.bind (shG step27.a0) fun _ =>
 Option.bind (math_bits_Mul64_g (io.ar .xor .u64 x25 (io.shr .u64 x25 step27.a0)) step27.a1) fun v29 =>
 some (.inl (v29.2,(io.ar .add .i64 v26 1)))
 ) else (
 some (.inr x25)
 )
noncomputable def digest_Sum_l92 : (Int×Int)→Option ((Int×Int) ⊕ (Int))
 | (x35,v36) =>
 bif (io.lt v36 2) then (
 Option.bind (
 Option.bind (pixG 2 v36) fun i38 =>
 some ((A2.mk (A2.mk 32 11400714819323198485) (A2.mk 29 13787848793156543929)).get i38)
 ) fun step37 =>
 Option.bind (shG step37.a0) fun _ =>
 Option.bind (math_bits_Mul64_g (io.ar .xor .u64 x35 (io.shr .u64 x35 step37.a0)) step37.a1) fun v39 =>
 some (.inl (v39.2,(io.ar .add .i64 v36 1)))
 ) else (
 some (.inr x35)
 )
noncomputable def digest_Sum_l88 : (Int×Int×Int)→Option ((Int×Int×Int) ⊕ (Int))
 | (s30,n31,add32) =>
 bif (io.lt 0 n31) then (
 Option.bind (shG (io.ar .mul .i64 8 n31)) fun _ =>
 bif (io.eq (io.ar .add .i64 n31 1) 8) then (
 Option.bind (
 Option.bind (
 whileG (digest_Sum_l92) ((io.ar .xor .u64 s30 (io.ar .or .u64 add32 (io.shl .u64 (io.wrap .u64 0) (io.ar .mul .i64 8 n31)))),0)
 ) fun x34 =>
 some (io.ar .xor .u64 x34 (io.shr .u64 x34 (.ofNat 32)))
 ) fun c33 =>
 some (.inl (c33,0,0))
 ) else (
 some (.inl (s30,(io.ar .add .i64 n31 1),(io.ar .or .u64 add32 (io.shl .u64 (io.wrap .u64 0) (io.ar .mul .i64 8 n31)))))
 )
 ) else (
 some (.inr s30)
 )
noncomputable def digest_Sum_g (text:ByteArray):Option (ByteArray) :=
 Option.bind (
 whileG (digest_Sum_l42 text) (7046029254386353131,0,0,0)
 ) fun (s1,n2,add3) =>
 Option.bind (
 Option.bind (
 Option.bind (shG (io.ar .mul .i64 8 n2)) fun _ =>
 bif (io.eq (io.ar .add .i64 n2 1) 8) then (
 Option.bind (
 Option.bind (
 whileG (digest_Sum_l79) ((io.ar .xor .u64 s1 (io.ar .or .u64 add3 (io.shl .u64 (io.wrap .u64 1) (io.ar .mul .i64 8 n2)))),0)
 ) fun x24 =>
 some (io.ar .xor .u64 x24 (io.shr .u64 x24 (.ofNat 32)))
 ) fun c23 =>
 some (c23,0,0)
 ) else (
 some (s1,(io.ar .add .i64 n2 1),(io.ar .or .u64 add3 (io.shl .u64 (io.wrap .u64 1) (io.ar .mul .i64 8 n2))))
 )
 ) fun (s20,n21,add22) =>
 whileG (digest_Sum_l88) (s20,n21,add22)
 ) fun s19 =>
 Option.bind (digest_state_text_g s19) fun v40 =>
 some v40
end Go.SX.Rg
namespace Go.SX.Rg
open Go Go.SX Go.Proofs
set_option maxRecDepth 100000
def c79r0 : List GOp:=gS 5 [.load 1 false 1,.mv 0,.cvi .u64 6,.load 1 false 2,.bin .mul (ci 8) 8,.div .shl 7 9,.bin .or 5 10]
def c79r0z : GOp:=⟨none,.store 1 1 11,none⟩
def c79r1 : List GOp:=gS 12 [.load 1 false 2,.bin .add 12 (ci 1)]++[⟨none,.store 1 2 13,none⟩]
def c79r2 : List GOp:=gS 14 [.load 1 false 2,.bin .eql 14 (ci 8)]
def c79r3 : List GOp:=gS 16 [.load 1 false 1,.call 80 [3,16]]
def c79r4 : List GOp:=[⟨none,.store 1 1 (.const (.int .u64 0)),none⟩,⟨none,.store 1 2 (ci 0),none⟩]
def c79 : EFn:=⟨18,.seq (.hyl true true true 6 c79r0 c79r0z) (.seq (.reg c79r1) (.seq (.reg c79r2) (.cond 15 (.join (.reg c79r3) (.reg c79r4)) (.skip)))),[]⟩
theorem c79_ok : compF Tryz.prog 79=some c79.er:=by kernel_rfl
def c80r0 : List GOp:=gS 7 [.mv 0,.nilck 7,.load 1 false 8,.mv 1,.bin .xor 9 10]++gS 4 [.mv 11]
def c80r1 : List GOp:=gS 12 [.build (.agg #[(.int .u64 0),(.int .u64 0)]) [((0,1),(.const (.int .u64 32))),((1,1),(.const (.int .u64 11400714819323198485)))],.build (.agg #[(.int .u64 0),(.int .u64 0)]) [((0,1),(.const (.int .u64 29))),((1,1),(.const (.int .u64 13787848793156543929)))],.build (.agg #[(.int .u64 0),(.int .u64 0),(.int .u64 0),(.int .u64 0)]) [((0,2),12),((2,2),13)],.mv (ci 0)]
def c80r2 : List GOp:=gS 16 [.bin .lss 15 (ci 2)]
def c80r3 : List GOp:=gS 17 [.idxV 2 2 true 14 15]++gS 6 [.alloc 135 (.agg #[(.int .u64 0),(.int .u64 0)])]++[⟨none,.store 2 6 17,none⟩]
def c80r4 : List GOp:=gS 18 [.mv 4,.mv 4,.idxP 2 1 6 (ci 0),.load 1 false 20,.div .shr 19 21,.bin .xor 18 22]++gS 4 [.mv 23]
def c80r5 : List GOp:=gS 25 [.mv 4,.idxP 2 1 6 (ci 1),.load 1 false 26,.call 108 [25,27]]++gS 24 [.mv 28]++gS 29 [.ext 24 0,.ext 24 1]++gS 4 [.mv 30]
def c80r6 : List GOp:=gS 31 [.bin .add 15 (ci 1)]++gS 15 [.mv 31]
def c80l7 : DE:=.seq (.reg c80r2) (.seq (.cond 16 (.skip) (.exit 0)) (.seq (.block 1 (.join (.reg c80r3) (.seq (.reg c80r4) (.reg c80r5)))) (.reg c80r6)))
def c80r8 : List GOp:=gS 32 [.mv 0,.mv 4,.mv 4,.bin .shr 34 (.const (.int .u64 32)),.bin .xor 33 35,.nilck 32]++[⟨none,.store 1 37 36,none⟩]
def c80 : EFn:=⟨38,.seq (.reg c80r0) (.join (.seq (.reg c80r1) (.block 0 (.loop c80l7))) (.reg c80r8)),[]⟩
theorem c80_ok : compF Tryz.prog 80=some c80.er:=by kernel_rfl
def c44r0 : List GOp:=gS 2 [.mv (.const (.string ⟨#[]⟩))]
def c44r1 : List GOp:=gS 3 [.alloc 108 (.int .u64 0)]++[⟨none,.store 1 3 (.const (.int .u64 7046029254386353131)),none⟩]
def c44r2 : List GOp:=gS 4 [.alloc 107 (.int .u64 0),.alloc 3 oz]++[⟨none,.store 1 4 (.const (.int .u64 0)),none⟩,⟨none,.store 1 5 (ci 0),none⟩]
def c44r3 : List GOp:=gS 8 [.mkfn (.func 79) [] [4,5,3]]++gS 6 [.mv 8]
def c44r4 : List GOp:=gS 9 [.mv 0,.len true 9,.mv (ci 0)]
def c44r5 : List GOp:=gS 12 [.bin .lss 11 10]
def c44r6 : List GOp:=gS 13 [.mv 11]++gS 7 [.mv 13]
def c44r7 : List GOp:=gS 14 [.mv 6,.mv 0,.mv 7,.idxS 15 16,.callv 14 [17]]
def c44r8 : List GOp:=gS 19 [.bin .add 11 (ci 1)]++gS 11 [.mv 19]
def c44l9 : DE:=.seq (.reg c44r5) (.seq (.cond 12 (.skip) (.exit 0)) (.join (.block 1 (.seq (.reg c44r6) (.reg c44r7))) (.reg c44r8)))
def c44r10 : List GOp:=gS 20 [.mv 6,.callv 20 [(.const (.int .u8 1))]]
def c44r11 : List GOp:=gS 22 [.load 1 false 5,.bin .gtr 22 (ci 0)]
def c44r12 : List GOp:=gS 24 [.mv 6,.callv 24 [(.const (.int .u8 0))]]
def c44l13 : DE:=.seq (.seq (.reg c44r11) (.cond 23 (.skip) (.exit 2))) (.block 3 (.reg c44r12))
def c44r14 : List GOp:=gS 26 [.load 1 false 3,.call 81 [26]]++gS 2 [.mv 27]
def c44 : EFn:=⟨28,.seq (.reg c44r0) (.seq (.reg c44r1) (.seq (.reg c44r2) (.seq (.reg c44r3) (.join (.seq (.reg c44r4) (.block 0 (.loop c44l9))) (.join (.join (.reg c44r10) (.block 2 (.loop c44l13))) (.seq (.reg c44r14) (.ret))))))),[.tmp 2]⟩
theorem c44_ok : compF Tryz.prog 44=some c44.er:=by kernel_rfl
set_option maxHeartbeats 4000000 in
theorem digest_Sum_R {P:Program}(hP:P=Tryz.prog)(text:ByteArray)(r:ByteArray)(h:digest_Sum_g text=some r):Fn1 P 44 [vS text] (vS r):=by
 refine .walkE (hP▸c44_ok) fun K hK=>?_;unfold digest_Sum_g at h;cbv;refine .g h (fun ((s1,n2,add3):Int×Int×Int)=>rp 3 .top++[.ptr 0 0,.top,.ptr 1 0,.clo (.func 79) [] [.ptr 2 0,.ptr 1 0,.ptr 0 0]]++rp 21 .top) (fun (s1,n2,add3)=>[.cells [.d (.val (.int .u64 s1))] 108,.cells [oi n2] 3,.cells [.d (.val (.int .u64 add3))] 107]) (fun y hm Kn1 hKn1=>?_) fun t h=>?_
 ·have h:=hm;clear hm;cbv;refine .g h (fun ((s4,n5,add6,v7):Int×Int×Int×Int)=>[.d (.val (.string text)),.top,.top,.ptr 0 0,.top,.ptr 1 0,.clo (.func 79) [] [.ptr 2 0,.ptr 1 0,.ptr 0 0]]++rp 3 .top++[oi (io.ssz text),oi v7]++rp 16 .top) (fun (s4,n5,add6,v7)=>[.cells [.d (.val (.int .u64 s4))] 108,.cells [oi n5] 3,.cells [.d (.val (.int .u64 add6))] 107]) (.nz (.mtE [0,2,1] ?_)) fun s x h hr2 Kn2 hKn2=>?_
  ·exact mx
  unfold digest_Sum_l42 at h;obtain⟨s4,n5,add6,v7⟩:=s;cbv;refine brkG h ?_ ?_<;>intro h
  ·cbv;refine .g h (fun ((s8,n9,add10):Int×Int×Int)=>[.d (.val (.string text)),.top,.top,.ptr 0 0,.top,.ptr 1 0,.clo (.func 79) [] [.ptr 2 0,.ptr 1 0,.ptr 0 0]]++rp 3 .top++[oi (io.ssz text),oi v7]++rp 16 .top) (fun (s8,n9,add10)=>[.cells [.d (.val (.int .u64 s8))] 108,.cells [oi n9] 3,.cells [.d (.val (.int .u64 add10))] 107]) (fun y hm Kn3 hKn3=>?_) fun t h=>?_
   ·have h:=hm;clear hm;cbv;refine .g h fun b11 h=>?_;cbv;refine .inl (hP▸c79_ok) ?_;cbv;refine .g h fun h=>?_;cbv;refine brkG h ?_ ?_<;>intro h
    ·cbv;refine .g h (fun (c12:Int)=>[.top,.ptr 2 0,.ptr 1 0]++rp 15 .top) (fun c12=>[.cells [.d (.val (.int .u64 c12))] 108,.cells [oi (io.ar .add .i64 n5 1)] 3,.cells [.d (.val (.int .u64 (io.ar .or .u64 add6 (io.shl .u64 (io.wrap .u64 b11) (io.ar .mul .i64 8 n5)))))] 107]) (fun y hm Kn4 hKn4=>?_) fun t h=>?_
     ·have h:=hm;clear hm;cbv;refine .inl (hP▸c80_ok) ?_;cbv;refine .g h (fun (x13:Int)=>[.ptr 0 0]++rp 3 .top++[.d (.val (.int .u64 x13))]++rp 33 .top) (fun x13=>[.cells [.d (.val (.int .u64 s4))] 108,.cells [oi (io.ar .add .i64 n5 1)] 3,.cells [.d (.val (.int .u64 (io.ar .or .u64 add6 (io.shl .u64 (io.wrap .u64 b11) (io.ar .mul .i64 8 n5)))))] 107]) (fun y hm Kn5 hKn5=>?_) fun t h=>?_
      ·have h:=hm;clear hm;cbv;refine .g h (fun ((x14,v15):Int×Int)=>[.ptr 0 0]++rp 3 .top++[.d (.val (.int .u64 x14))]++rp 9 .top++[.agg [.d (.val (.int .u64 32)),.d (.val (.int .u64 11400714819323198485)),.d (.val (.int .u64 29)),.d (.val (.int .u64 13787848793156543929))],oi v15]++rp 22 .top) (fun (x14,v15)=>[.cells [.d (.val (.int .u64 s4))] 108,.cells [oi (io.ar .add .i64 n5 1)] 3,.cells [.d (.val (.int .u64 (io.ar .or .u64 add6 (io.shl .u64 (io.wrap .u64 b11) (io.ar .mul .i64 8 n5)))))] 107]) (.nz (.mtE [0,1,2] ?_)) fun s x h hr6 Kn6 hKn6=>?_
       ·exact mx
       unfold digest_Sum_l50 at h;obtain⟨x14,v15⟩:=s;cbv;refine brkG h ?_ ?_<;>intro h
       ·cbv;refine .g h (fun (step16:(A2 Int))=>[.ptr 0 0]++rp 3 .top++[.d (.val (.int .u64 x14)),.top,.ptr 3 0]++rp 7 .top++[.agg [.d (.val (.int .u64 32)),.d (.val (.int .u64 11400714819323198485)),.d (.val (.int .u64 29)),.d (.val (.int .u64 13787848793156543929))],oi v15]++rp 22 .top) (fun step16=>[.cells [.d (.val (.int .u64 s4))] 108,.cells [oi (io.ar .add .i64 n5 1)] 3,.cells [.d (.val (.int .u64 (io.ar .or .u64 add6 (io.shl .u64 (io.wrap .u64 b11) (io.ar .mul .i64 8 n5)))))] 107,.cells [.d (.val (.int .u64 step16.a0)),.d (.val (.int .u64 step16.a1))] 135]) (fun y hm Kn7 hKn7=>?_) fun t h=>?_
        ·have h:=hm;clear hm;cbv
         refine .c2 h ?_ ?_<;>(
          intro hni17 h;cbv;obtain rfl:=oj h;exact hKn7 _ _ _ rfl (.nz (.mtE [0,1,2,3] mx))
          )
        obtain⟨step16,rfl⟩:=ez t;cbv;refine .lit 0 rfl (by decide) ?_;cbv;refine .g h fun h=>?_;cbv;refine .lit 1 rfl (by decide) ?_;cbv;refine .g h (fun v hv=>math_bits_Mul64_R hP _ _ v hv) aw_ rfl (fun _=>rfl) fun v18 h=>?_;cbv;obtain rfl:=oj h;exact hKn6 _ _ _ rfl (.nz (.mtE [0,1,2] mx))
       ·cbv;obtain rfl:=oj h;obtain rfl:=hr6 _ rfl;exact hKn5 _ _ _ rfl (.nz (.mtE [0,1,2] mx))
      obtain⟨x13,rfl⟩:=ez t;cbv;obtain rfl:=oj h;exact hKn4 _ _ _ rfl (.nz (.mtE [0,1,2] mx))
     obtain⟨c12,rfl⟩:=ez t;cbv;obtain rfl:=oj h;exact hKn3 _ _ _ rfl (.nz (.mtE [0,1,2] mx))
    ·cbv;obtain rfl:=oj h;exact hKn3 _ _ _ rfl (.nz (.mtE [0,1,2] mx))
   obtain⟨s8,n9,add10⟩:=t;cbv;obtain rfl:=oj h;exact hKn2 _ _ _ rfl (.nz (.mtE [0,1,2] mx))
  ·cbv;obtain rfl:=oj h;obtain rfl:=hr2 _ rfl;exact hKn1 _ _ _ rfl (.nz (.mtE [0,1,2] mx))
 obtain⟨s1,n2,add3⟩:=t;cbv;refine .g h (fun (s19:Int)=>rp 3 .top++[.ptr 0 0]++rp 24 .top) (fun s19=>[.cells [.d (.val (.int .u64 s19))] 108]) (fun y hm Kn1 hKn1=>?_) fun t h=>?_
 ·have h:=hm;clear hm;cbv;refine .g h (fun ((s20,n21,add22):Int×Int×Int)=>rp 3 .top++[.ptr 0 0,.top,.ptr 1 0,.clo (.func 79) [] [.ptr 2 0,.ptr 1 0,.ptr 0 0]]++rp 21 .top) (fun (s20,n21,add22)=>[.cells [.d (.val (.int .u64 s20))] 108,.cells [oi n21] 3,.cells [.d (.val (.int .u64 add22))] 107]) (fun y hm Kn2 hKn2=>?_) fun t h=>?_
  ·have h:=hm;clear hm;cbv;refine .inl (hP▸c79_ok) ?_;cbv;refine .g h fun h=>?_;cbv;refine brkG h ?_ ?_<;>intro h
   ·cbv;refine .g h (fun (c23:Int)=>[.top,.ptr 2 0,.ptr 1 0]++rp 15 .top) (fun c23=>[.cells [.d (.val (.int .u64 c23))] 108,.cells [oi (io.ar .add .i64 n2 1)] 3,.cells [.d (.val (.int .u64 (io.ar .or .u64 add3 (io.shl .u64 (io.wrap .u64 1) (io.ar .mul .i64 8 n2)))))] 107]) (fun y hm Kn3 hKn3=>?_) fun t h=>?_
    ·have h:=hm;clear hm;cbv;refine .inl (hP▸c80_ok) ?_;cbv;refine .g h (fun (x24:Int)=>[.ptr 0 0]++rp 3 .top++[.d (.val (.int .u64 x24))]++rp 33 .top) (fun x24=>[.cells [.d (.val (.int .u64 s1))] 108,.cells [oi (io.ar .add .i64 n2 1)] 3,.cells [.d (.val (.int .u64 (io.ar .or .u64 add3 (io.shl .u64 (io.wrap .u64 1) (io.ar .mul .i64 8 n2)))))] 107]) (fun y hm Kn4 hKn4=>?_) fun t h=>?_
     ·have h:=hm;clear hm;cbv;refine .g h (fun ((x25,v26):Int×Int)=>[.ptr 0 0]++rp 3 .top++[.d (.val (.int .u64 x25))]++rp 9 .top++[.agg [.d (.val (.int .u64 32)),.d (.val (.int .u64 11400714819323198485)),.d (.val (.int .u64 29)),.d (.val (.int .u64 13787848793156543929))],oi v26]++rp 22 .top) (fun (x25,v26)=>[.cells [.d (.val (.int .u64 s1))] 108,.cells [oi (io.ar .add .i64 n2 1)] 3,.cells [.d (.val (.int .u64 (io.ar .or .u64 add3 (io.shl .u64 (io.wrap .u64 1) (io.ar .mul .i64 8 n2)))))] 107]) (.nz (.mtE [0,1,2] ?_)) fun s x h hr5 Kn5 hKn5=>?_
      ·exact mx
      unfold digest_Sum_l79 at h;obtain⟨x25,v26⟩:=s;cbv;refine brkG h ?_ ?_<;>intro h
      ·cbv;refine .g h (fun (step27:(A2 Int))=>[.ptr 0 0]++rp 3 .top++[.d (.val (.int .u64 x25)),.top,.ptr 3 0]++rp 7 .top++[.agg [.d (.val (.int .u64 32)),.d (.val (.int .u64 11400714819323198485)),.d (.val (.int .u64 29)),.d (.val (.int .u64 13787848793156543929))],oi v26]++rp 22 .top) (fun step27=>[.cells [.d (.val (.int .u64 s1))] 108,.cells [oi (io.ar .add .i64 n2 1)] 3,.cells [.d (.val (.int .u64 (io.ar .or .u64 add3 (io.shl .u64 (io.wrap .u64 1) (io.ar .mul .i64 8 n2)))))] 107,.cells [.d (.val (.int .u64 step27.a0)),.d (.val (.int .u64 step27.a1))] 135]) (fun y hm Kn6 hKn6=>?_) fun t h=>?_
       ·have h:=hm;clear hm;cbv
        refine .c2 h ?_ ?_<;>(
         intro hni28 h;cbv;obtain rfl:=oj h;exact hKn6 _ _ _ rfl (.nz (.mtE [0,1,2,3] mx))
         )
       obtain⟨step27,rfl⟩:=ez t;cbv;refine .lit 0 rfl (by decide) ?_;cbv;refine .g h fun h=>?_;cbv;refine .lit 1 rfl (by decide) ?_;cbv;refine .g h (fun v hv=>math_bits_Mul64_R hP _ _ v hv) aw_ rfl (fun _=>rfl) fun v29 h=>?_;cbv;obtain rfl:=oj h;exact hKn5 _ _ _ rfl (.nz (.mtE [0,1,2] mx))
      ·cbv;obtain rfl:=oj h;obtain rfl:=hr5 _ rfl;exact hKn4 _ _ _ rfl (.nz (.mtE [0,1,2] mx))
     obtain⟨x24,rfl⟩:=ez t;cbv;obtain rfl:=oj h;exact hKn3 _ _ _ rfl (.nz (.mtE [0,1,2] mx))
    obtain⟨c23,rfl⟩:=ez t;cbv;obtain rfl:=oj h;exact hKn2 _ _ _ rfl (.nz (.mtE [0,1,2] mx))
   ·cbv;obtain rfl:=oj h;exact hKn2 _ _ _ rfl (.nz (.mtE [0,1,2] mx))
  obtain⟨s20,n21,add22⟩:=t;cbv;refine .g h (fun ((s30,n31,add32):Int×Int×Int)=>rp 3 .top++[.ptr 0 0,.top,.ptr 1 0,.clo (.func 79) [] [.ptr 2 0,.ptr 1 0,.ptr 0 0]]++rp 21 .top) (fun (s30,n31,add32)=>[.cells [.d (.val (.int .u64 s30))] 108,.cells [oi n31] 3,.cells [.d (.val (.int .u64 add32))] 107]) (.nz (.mtE [0,1,2] ?_)) fun s x h hr2 Kn2 hKn2=>?_
  ·exact mx
  unfold digest_Sum_l88 at h;obtain⟨s30,n31,add32⟩:=s;cbv;refine brkG h ?_ ?_<;>intro h
  ·cbv;refine .inl (hP▸c79_ok) ?_;cbv;refine .g h fun h=>?_;cbv;refine brkG h ?_ ?_<;>intro h
   ·cbv;refine .g h (fun (c33:Int)=>[.top,.ptr 2 0,.ptr 1 0]++rp 15 .top) (fun c33=>[.cells [.d (.val (.int .u64 c33))] 108,.cells [oi (io.ar .add .i64 n31 1)] 3,.cells [.d (.val (.int .u64 (io.ar .or .u64 add32 (io.shl .u64 (io.wrap .u64 0) (io.ar .mul .i64 8 n31)))))] 107]) (fun y hm Kn3 hKn3=>?_) fun t h=>?_
    ·have h:=hm;clear hm;cbv;refine .inl (hP▸c80_ok) ?_;cbv;refine .g h (fun (x34:Int)=>[.ptr 0 0]++rp 3 .top++[.d (.val (.int .u64 x34))]++rp 33 .top) (fun x34=>[.cells [.d (.val (.int .u64 s30))] 108,.cells [oi (io.ar .add .i64 n31 1)] 3,.cells [.d (.val (.int .u64 (io.ar .or .u64 add32 (io.shl .u64 (io.wrap .u64 0) (io.ar .mul .i64 8 n31)))))] 107]) (fun y hm Kn4 hKn4=>?_) fun t h=>?_
     ·have h:=hm;clear hm;cbv;refine .g h (fun ((x35,v36):Int×Int)=>[.ptr 0 0]++rp 3 .top++[.d (.val (.int .u64 x35))]++rp 9 .top++[.agg [.d (.val (.int .u64 32)),.d (.val (.int .u64 11400714819323198485)),.d (.val (.int .u64 29)),.d (.val (.int .u64 13787848793156543929))],oi v36]++rp 22 .top) (fun (x35,v36)=>[.cells [.d (.val (.int .u64 s30))] 108,.cells [oi (io.ar .add .i64 n31 1)] 3,.cells [.d (.val (.int .u64 (io.ar .or .u64 add32 (io.shl .u64 (io.wrap .u64 0) (io.ar .mul .i64 8 n31)))))] 107]) (.nz (.mtE [0,1,2] ?_)) fun s x h hr5 Kn5 hKn5=>?_
      ·exact mx
      unfold digest_Sum_l92 at h;obtain⟨x35,v36⟩:=s;cbv;refine brkG h ?_ ?_<;>intro h
      ·cbv;refine .g h (fun (step37:(A2 Int))=>[.ptr 0 0]++rp 3 .top++[.d (.val (.int .u64 x35)),.top,.ptr 3 0]++rp 7 .top++[.agg [.d (.val (.int .u64 32)),.d (.val (.int .u64 11400714819323198485)),.d (.val (.int .u64 29)),.d (.val (.int .u64 13787848793156543929))],oi v36]++rp 22 .top) (fun step37=>[.cells [.d (.val (.int .u64 s30))] 108,.cells [oi (io.ar .add .i64 n31 1)] 3,.cells [.d (.val (.int .u64 (io.ar .or .u64 add32 (io.shl .u64 (io.wrap .u64 0) (io.ar .mul .i64 8 n31)))))] 107,.cells [.d (.val (.int .u64 step37.a0)),.d (.val (.int .u64 step37.a1))] 135]) (fun y hm Kn6 hKn6=>?_) fun t h=>?_
       ·have h:=hm;clear hm;cbv
        refine .c2 h ?_ ?_<;>(
         intro hni38 h;cbv;obtain rfl:=oj h;exact hKn6 _ _ _ rfl (.nz (.mtE [0,1,2,3] mx))
         )
       obtain⟨step37,rfl⟩:=ez t;cbv;refine .lit 0 rfl (by decide) ?_;cbv;refine .g h fun h=>?_;cbv;refine .lit 1 rfl (by decide) ?_;cbv;refine .g h (fun v hv=>math_bits_Mul64_R hP _ _ v hv) aw_ rfl (fun _=>rfl) fun v39 h=>?_;cbv;obtain rfl:=oj h;exact hKn5 _ _ _ rfl (.nz (.mtE [0,1,2] mx))
      ·cbv;obtain rfl:=oj h;obtain rfl:=hr5 _ rfl;exact hKn4 _ _ _ rfl (.nz (.mtE [0,1,2] mx))
     obtain⟨x34,rfl⟩:=ez t;cbv;obtain rfl:=oj h;exact hKn3 _ _ _ rfl (.nz (.mtE [0,1,2] mx))
    obtain⟨c33,rfl⟩:=ez t;cbv;obtain rfl:=oj h;exact hKn2 _ _ _ rfl (.nz (.mtE [0,1,2] mx))
   ·cbv;obtain rfl:=oj h;exact hKn2 _ _ _ rfl (.nz (.mtE [0,1,2] mx))
  ·cbv;obtain rfl:=oj h;obtain rfl:=hr2 _ rfl;exact hKn1 _ _ _ rfl (.nz (.mtE [0] mx))
 obtain⟨s19,rfl⟩:=ez t;cbv;refine .g h (fun v hv=>digest_state_text_R hP _ v hv) aw_ rfl (fun _=>rfl) fun v40 h=>?_;cbv;obtain rfl:=oj h;exact hK _ _ aw_
end Go.SX.Rg
namespace Go.SX.Rg
open Go Go.SX Go.Proofs
set_option maxRecDepth 100000
noncomputable def digest_Chain_l2 (n:Int):(ByteArray×Int)→Option ((ByteArray×Int) ⊕ (ByteArray))
 | (text2,v3) =>
 bif (io.lt v3 (io.mm true 0 (io.mm false n 1000))) then (
 Option.bind (digest_Sum_g text2) fun text4 =>
 some (.inl (text4,(io.ar .add .i64 v3 1)))
 ) else (
 some (.inr text2)
 )
noncomputable def digest_Chain_g (text:ByteArray)(n:Int):Option (ByteArray) :=
 Option.bind (
 whileG (digest_Chain_l2 n) (text,0)
 ) fun text1 =>
 some text1
end Go.SX.Rg
namespace Go.SX.Rg
open Go Go.SX Go.Proofs
set_option maxRecDepth 100000
def c96r0 : List GOp:=gS 4 [.mv (.const (.string ⟨#[]⟩))]
def c96r1 : List GOp:=gS 5 [.mv 1,.mm false 5 [(ci 1000)],.mm true (ci 0) [6],.mv (ci 0)]
def c96r2 : List GOp:=gS 9 [.bin .lss 8 7]
def c96r3 : List GOp:=gS 10 [.mv 0,.call 44 [10]]++gS 0 [.mv 11]
def c96r4 : List GOp:=gS 12 [.bin .add 8 (ci 1)]++gS 8 [.mv 12]
def c96l5 : DE:=.seq (.reg c96r2) (.seq (.cond 9 (.skip) (.exit 0)) (.seq (.block 1 (.reg c96r3)) (.reg c96r4)))
def c96r6 : List GOp:=gS 13 [.mv 0]++gS 4 [.mv 13]
def c96 : EFn:=⟨14,.seq (.reg c96r0) (.join (.seq (.reg c96r1) (.block 0 (.loop c96l5))) (.seq (.reg c96r6) (.ret))),[.tmp 4]⟩
theorem c96_ok : compF Tryz.prog 96=some c96.er:=by kernel_rfl
set_option maxHeartbeats 4000000 in
theorem digest_Chain_R {P:Program}(hP:P=Tryz.prog)(text:ByteArray)(n:Int)(r:ByteArray)(h:digest_Chain_g text n=some r):Fn1 P 96 [vS text,vIi64 n] (vS r):=by
 refine .walkE (hP▸c96_ok) fun K hK=>?_;unfold digest_Chain_g at h;cbv;refine .g h (fun (text1:ByteArray)=>[.d (.val (.string text1))]++rp 13 .top) (fun text1=>[]) (fun y hm Kn1 hKn1=>?_) fun t h=>?_
 ·have h:=hm;clear hm;cbv;refine .g h (fun ((text2,v3):ByteArray×Int)=>[.d (.val (.string text2))]++rp 6 .top++[oi (io.mm true 0 (io.mm false n 1000)),oi v3]++rp 5 .top) (fun (text2,v3)=>[]) (.nz (.mtE [] ?_)) fun s x h hr2 Kn2 hKn2=>?_
  ·exact mx
  unfold digest_Chain_l2 at h;obtain⟨text2,v3⟩:=s;cbv;refine brkG h ?_ ?_<;>intro h
  ·cbv;refine .g h (fun v hv=>digest_Sum_R hP _ v hv) aw_ rfl (fun _=>rfl) fun text4 h=>?_;cbv;obtain rfl:=oj h;exact hKn2 _ _ _ rfl (.nz (.mtE [] mx))
  ·cbv;obtain rfl:=oj h;obtain rfl:=hr2 _ rfl;exact hKn1 _ _ _ rfl (.nz (.mtE [] mx))
 obtain⟨text1,rfl⟩:=ez t;cbv;obtain rfl:=oj h;exact hK _ _ aw_
end Go.SX.Rg
namespace Go.SX.Rg
open Go Go.SX Go.Proofs
set_option maxRecDepth 100000
noncomputable def digest_Is_g (text:ByteArray):Option (Bool) :=
 bif (io.eq (io.ssz text) 16) then (
 Option.bind (strings_Trim_g text (⟨#[48,49,50,51,52,53,54,55,56,57,97,98,99,100,101,102]⟩)) fun v1 =>
 some (io.seq v1 (⟨#[]⟩))
 ) else (
 some false
 )
end Go.SX.Rg
namespace Go.SX.Rg
open Go Go.SX Go.Proofs
set_option maxRecDepth 100000
def c57r0 : List GOp:=gS 2 [.mv (cB false)]
def c57r1 : List GOp:=gS 3 [.mv 0,.len true 3,.bin .eql 4 (ci 16),.mv 5]++gQ 6 true 7 [.mv 0,.call 97 [7,(.const (.string ⟨#[48,49,50,51,52,53,54,55,56,57,97,98,99,100,101,102]⟩))],.bin .eql 8 (.const (.string ⟨#[]⟩))]++gS 10 [.pick 6 9 (cB false)]++gS 2 [.mv 10]
def c57 : EFn:=⟨11,.seq (.reg c57r0) (.seq (.reg c57r1) (.ret)),[.tmp 2]⟩
theorem c57_ok : compF Tryz.prog 57=some c57.er:=by kernel_rfl
set_option maxHeartbeats 4000000 in
theorem digest_Is_R {P:Program}(hP:P=Tryz.prog)(text:ByteArray)(r:Bool)(h:digest_Is_g text=some r):Fn1 P 57 [vS text] (vB r):=by
 refine .walkE (hP▸c57_ok) fun K hK=>?_;unfold digest_Is_g at h;cbv;refine brkG h ?_ ?_<;>intro h
 ·cbv;refine .g h (fun v hv=>strings_Trim_R hP _ _ v hv) aw_ rfl (fun _=>rfl) fun v1 h=>?_;cbv;obtain rfl:=oj h;exact hK _ _ aw_
 ·cbv;obtain rfl:=oj h;exact hK _ _ aw_
end Go.SX.Rg
namespace Go.SX.Rg
open Go Go.SX Go.Proofs
set_option maxRecDepth 100000
noncomputable def title_formed_l26 (x4:Transfer):Int→Option ((Int) ⊕ ((Unit) ⊕ (Bool)))
 | v7 =>
 bif (io.lt v7 (io.len (W eS x4.Sig))) then (
 Option.bind (
 Option.bind (idxG x4.Sig v7) fun x9 =>
 Option.bind (digest_Is_g x9) fun v10 =>
 some (io.not v10)
 ) fun v8 =>
 bif v8 then (
 some (.inr (.inr (io.le 0 v7)))
 ) else (
 some (.inl (io.ar .add .i64 v7 1))
 )
 ) else (
 some (.inr (.inl ()))
 )
noncomputable def title_formed_l22 (t_:Title):Int→Option ((Int) ⊕ ((Unit) ⊕ (Bool)))
 | v3 =>
 bif (io.lt v3 (io.len (W eTransfer t_.Chain))) then (
 Option.bind (idxG t_.Chain v3) fun x4 =>
 Option.bind (
 bif (io.not (io.eq (io.len (W eS x4.Sig)) 18)) then (
 some true
 ) else (
 Option.bind (digest_Is_g x4.To) fun v6 =>
 bif (io.not v6) then (
 some true
 ) else (
 orR (
 whileG (title_formed_l26 x4) 0
 ) fun _ =>
 some (io.le 0 (-1))
 )
 )
 ) fun v5 =>
 bif v5 then (
 some (.inr (.inr false))
 ) else (
 some (.inl (io.ar .add .i64 v3 1))
 )
 ) else (
 some (.inr (.inl ()))
 )
noncomputable def title_formed_g (t_:Title):Option (Bool) :=
 Option.bind (
 bif (io.lt t_.Show 0) then (
 some true
 ) else (
 bif (io.le 20 t_.Show) then (
 some true
 ) else (
 bif (io.lt (io.ar .sub .i64 t_.Serial (io.ar .mul .i64 (io.ar .add .i64 t_.Show 1) 10000)) 1) then (
 some true
 ) else (
 bif (io.lt 9999 (io.ar .sub .i64 t_.Serial (io.ar .mul .i64 (io.ar .add .i64 t_.Show 1) 10000))) then (
 some true
 ) else (
 bif (io.lt t_.Place (-1)) then (
 some true
 ) else (
 bif (io.le 4000 t_.Place) then (
 some true
 ) else (
 Option.bind (digest_Is_g t_.First) fun v2 =>
 bif (io.not v2) then (
 some true
 ) else (
 some (io.lt 50 (io.len (W eTransfer t_.Chain)))
 )
 )
 )
 )
 )
 )
 )
 ) fun v1 =>
 bif v1 then (
 some false
 ) else (
 orR (
 whileG (title_formed_l22 t_) 0
 ) fun _ =>
 some true
 )
end Go.SX.Rg
namespace Go.SX.Rg
open Go Go.SX Go.Proofs
set_option maxRecDepth 100000
def c105r0 : List GOp:=gS 4 [.mv (cB false)]
def c105r1 : List GOp:=gS 5 [.mv 0,.mv 1,.call 125 [5,6],.bin .geq 7 (ci 0)]++gS 4 [.mv 8]
def c105 : EFn:=⟨9,.seq (.reg c105r0) (.seq (.reg c105r1) (.ret)),[.tmp 4]⟩
theorem c105_ok : compF Tryz.prog 105=some c105.er:=by kernel_rfl
def c125r0 : List GOp:=gS 4 [.mv (ci 0)]
def c125r1 : List GOp:=gS 6 [.mv 0,.len false 6,.mv (ci 0)]
def c125r2 : List GOp:=gS 9 [.bin .lss 8 7]
def c125r3 : List GOp:=gS 10 [.mv 8]++gS 5 [.mv 10]
def c125r4 : List GOp:=gS 11 [.mv 1,.mv 0,.mv 5,.idxA 1 12 13,.load 1 false 14,.callv 11 [15]]
def c125r5 : List GOp:=gS 17 [.mv 5]++gS 4 [.mv 17]
def c125r6 : List GOp:=gS 18 [.bin .add 8 (ci 1)]++gS 8 [.mv 18]
def c125l7 : DE:=.seq (.reg c125r2) (.seq (.cond 9 (.skip) (.exit 0)) (.seq (.block 1 (.seq (.reg c125r3) (.join (.reg c125r4) (.cond 16 (.seq (.reg c125r5) (.ret)) (.skip))))) (.reg c125r6)))
def c125r8 : List GOp:=gS 4 [.mv (ci (-1))]
def c125 : EFn:=⟨19,.seq (.reg c125r0) (.join (.seq (.reg c125r1) (.block 0 (.loop c125l7))) (.seq (.reg c125r8) (.ret))),[.tmp 4]⟩
theorem c125_ok : compF Tryz.prog 125=some c125.er:=by kernel_rfl
def c106r0 : List GOp:=gS 2 [.mv (cB false)]
def c106r1 : List GOp:=gS 3 [.mv 0,.call 57 [3],.un .not 4]++gS 2 [.mv 5]
def c106 : EFn:=⟨6,.seq (.reg c106r0) (.seq (.reg c106r1) (.ret)),[.tmp 2]⟩
theorem c106_ok : compF Tryz.prog 106=some c106.er:=by kernel_rfl
def c72r0 : List GOp:=gS 1 [.box 35 0,.mv (cB false)]
def c72r1 : List GOp:=gS 6 [.fadd 0 1,.load 1 false 6,.fadd 1 1,.load 1 false 8,.bin .add 9 (ci 1),.bin .mul 10 (ci 10000),.bin .sub 7 11]++gS 3 [.mv 12]
def c72r2 : List GOp:=gS 13 [.fadd 1 1,.load 1 false 13,.bin .lss 14 (ci 0),.mv 15]++gQ 16 false 17 [.fadd 1 1,.load 1 false 17,.bin .geq 18 (ci 20)]++gS 20 [.pick 16 (cB true) 19,.mv 20]++gQ 21 false 22 [.mv 3,.bin .lss 22 (ci 1)]++gS 24 [.pick 21 (cB true) 23,.mv 24]++gQ 25 false 26 [.mv 3,.bin .gtr 26 (ci 9999)]++gS 28 [.pick 25 (cB true) 27,.mv 28]++gQ 29 false 30 [.fadd 2 1,.load 1 false 30,.bin .lss 31 (ci (-1))]++gS 33 [.pick 29 (cB true) 32,.mv 33]++gQ 34 false 35 [.fadd 2 1,.load 1 false 35,.bin .geq 36 (ci 4000)]++gS 38 [.pick 34 (cB true) 37,.mv 38]++gQ 39 false 40 [.fadd 3 1,.load 1 false 40,.call 57 [41],.un .not 42]++gS 44 [.pick 39 (cB true) 43,.mv 44]++gQ 45 false 46 [.fadd 4 1,.load 1 false 46,.len false 47,.bin .gtr 48 (ci 50)]++gS 50 [.pick 45 (cB true) 49]
def c72r3 : List GOp:=gS 2 [.mv (cB false)]
def c72r4 : List GOp:=gS 51 [.fadd 4 1,.load 1 false 51,.len false 52,.mv (ci 0)]
def c72r5 : List GOp:=gS 55 [.bin .lss 54 53]
def c72r6 : List GOp:=gS 56 [.idxA 2 52 54,.load 2 true 56]++gS 5 [.alloc 46 (.agg #[(.string ⟨#[]⟩),(.slice none 0 0)])]++[⟨none,.store 2 5 57,none⟩]
def c72r7 : List GOp:=gS 58 [.fadd 1 5,.load 1 false 58,.len false 59,.bin .neq 60 (ci 18),.mv 61]++gQ 62 false 63 [.fadd 0 5,.load 1 false 63,.call 57 [64],.un .not 65]++gS 67 [.pick 62 (cB true) 66,.mv 67]++gQ 68 false 69 [.fadd 1 5,.load 1 false 69,.call 105 [70,(.func 106)]]++gS 72 [.pick 68 (cB true) 71]
def c72r8 : List GOp:=gS 2 [.mv (cB false)]
def c72r9 : List GOp:=gS 73 [.bin .add 54 (ci 1)]++gS 54 [.mv 73]
def c72l10 : DE:=.seq (.reg c72r5) (.seq (.cond 55 (.skip) (.exit 0)) (.seq (.block 1 (.seq (.reg c72r6) (.join (.reg c72r7) (.cond 72 (.seq (.reg c72r8) (.ret)) (.skip))))) (.reg c72r9)))
def c72r11 : List GOp:=gS 2 [.mv (cB true)]
def c72 : EFn:=⟨74,.seq (.reg c72r0) (.seq (.reg c72r1) (.seq (.join (.reg c72r2) (.cond 50 (.seq (.reg c72r3) (.ret)) (.skip))) (.join (.seq (.reg c72r4) (.block 0 (.loop c72l10))) (.seq (.reg c72r11) (.ret))))),[.tmp 2]⟩
theorem c72_ok : compF Tryz.prog 72=some c72.er:=by kernel_rfl
set_option maxHeartbeats 4000000 in
theorem title_formed_R {P:Program}(hP:P=Tryz.prog)(t_:Title)(r:Bool)(h:title_formed_g t_=some r):Fn1 P 72 [vTitle t_] (vB r):=by
 refine .walkE (hP▸c72_ok) fun K hK=>?_;unfold title_formed_g at h;cbv;refine .g h (fun (v1:Bool)=>[.top,.ptr 0 0]++rp 48 .top++[ob v1]++rp 23 .top) (fun v1=>[.cells [oi t_.Serial,oi t_.Show,oi t_.Place,.d (.val (.string t_.First)),dq eTransfer t_.Chain] 35]) (fun y hm Kn1 hKn1=>?_) fun t h=>?_
 ·have h:=hm;clear hm;cbv;refine brkG h ?_ ?_<;>intro h
  ·cbv;obtain rfl:=oj h;exact hKn1 _ _ _ rfl (.nz (.mtE [0] mx))
  ·cbv;refine brkG h ?_ ?_<;>intro h
   ·cbv;obtain rfl:=oj h;exact hKn1 _ _ _ rfl (.nz (.mtE [0] mx))
   ·cbv;refine brkG h ?_ ?_<;>intro h
    ·cbv;obtain rfl:=oj h;exact hKn1 _ _ _ rfl (.nz (.mtE [0] mx))
    ·cbv;refine brkG h ?_ ?_<;>intro h
     ·cbv;obtain rfl:=oj h;exact hKn1 _ _ _ rfl (.nz (.mtE [0] mx))
     ·cbv;refine brkG h ?_ ?_<;>intro h
      ·cbv;obtain rfl:=oj h;exact hKn1 _ _ _ rfl (.nz (.mtE [0] mx))
      ·cbv;refine brkG h ?_ ?_<;>intro h
       ·cbv;obtain rfl:=oj h;exact hKn1 _ _ _ rfl (.nz (.mtE [0] mx))
       ·cbv;refine .g h (fun v hv=>digest_Is_R hP _ v hv) aw_ rfl (fun _=>rfl) fun v2 h=>?_;cbv;refine brkG h ?_ ?_<;>intro h
        ·cbv;obtain rfl:=oj h;exact hKn1 _ _ _ rfl (.nz (.mtE [0] mx))
        ·cbv;obtain rfl:=oj h;exact hKn1 _ _ _ rfl (.nz (.mtE [0] mx))
 obtain⟨v1,rfl⟩:=ez t;cbv;refine brkG h ?_ ?_<;>intro h
 ·cbv;obtain rfl:=oj h;exact hK _ _ aw_
 ·cbv;refine .ga h (fun (_:Unit)=>rp 74 .top) (fun _=>[]) (fun y hm hr1 Kn1 hKn1=>?_) fun t h=>?_
  ·have h:=hm;clear hm;cbv;refine .g h (fun (v3:Int)=>rp 52 .top++[dq eTransfer t_.Chain,oi (io.len (W eTransfer t_.Chain)),oi v3]++rp 19 .top) (fun v3=>[]) (.nz (.mtE [] ?_)) fun s x h hr2 Kn2 hKn2=>?_
   ·exact mx
   unfold title_formed_l22 at h;obtain⟨v3,rfl⟩:=ez s;cbv;refine brkG h ?_ ?_<;>intro h
   ·cbv;refine .g h (fun _=>rfl) fun x4 h=>?_;cbv;refine .g h (fun (v5:Bool)=>rp 52 .top++[dq eTransfer t_.Chain,oi (io.len (W eTransfer t_.Chain)),oi v3]++rp 17 .top++[ob v5,.top]) (fun v5=>[]) (fun y hm Kn3 hKn3=>?_) fun t h=>?_
    ·have h:=hm;clear hm;cbv;refine brkG h ?_ ?_<;>intro h
     ·cbv;obtain rfl:=oj h;exact hKn3 _ _ _ rfl (.nz (.mtE [] mx))
     ·cbv;refine .g h (fun v hv=>digest_Is_R hP _ v hv) aw_ rfl (fun _=>rfl) fun v6 h=>?_;cbv;refine brkG h ?_ ?_<;>intro h
      ·cbv;obtain rfl:=oj h;exact hKn3 _ _ _ rfl (.nz (.mtE [] mx))
      ·cbv;refine .inl (hP▸c105_ok) ?_;cbv;refine .inl (hP▸c125_ok) ?_;cbv;refine .ga h (fun (_:Unit)=>rp 19 .top) (fun _=>[.cells [.d (.val (.string x4.To)),dq eS x4.Sig] 46]) (fun y hm hr4 Kn4 hKn4=>?_) fun t h=>?_
       ·have h:=hm;clear hm;cbv;refine .g h (fun (v7:Int)=>[dq eS x4.Sig,.clo (.func 106) [] []]++rp 5 .top++[oi (io.len (W eS x4.Sig)),oi v7]++rp 10 .top) (fun v7=>[.cells [.d (.val (.string x4.To)),dq eS x4.Sig] 46]) (.nz (.mtE [0] ?_)) fun s x h hr5 Kn5 hKn5=>?_
        ·exact mx
        unfold title_formed_l26 at h;obtain⟨v7,rfl⟩:=ez s;cbv;refine brkG h ?_ ?_<;>intro h
        ·cbv;refine .g h (fun (v8:Bool)=>[dq eS x4.Sig,.clo (.func 106) [] []]++rp 3 .top++[oi v7,.top,oi (io.len (W eS x4.Sig)),oi v7]++rp 7 .top++[ob v8,.top,.top]) (fun v8=>[.cells [.d (.val (.string x4.To)),dq eS x4.Sig] 46]) (fun y hm Kn6 hKn6=>?_) fun t h=>?_
         ·have h:=hm;clear hm;cbv;refine .g h (fun _=>rfl) fun x9 h=>?_;cbv;refine .inl (hP▸c106_ok) ?_;cbv;refine .g h (fun v hv=>digest_Is_R hP _ v hv) aw_ rfl (fun _=>rfl) fun v10 h=>?_;cbv;obtain rfl:=oj h;exact hKn6 _ _ _ rfl (.nz (.mtE [0] mx))
         obtain⟨v8,rfl⟩:=ez t;cbv;refine brkG h ?_ ?_<;>intro h
         ·cbv;obtain rfl:=oj h;obtain rfl:=hr5 _ rfl;obtain rfl:=hr4 _ rfl;exact hKn3 _ _ _ rfl (.nz (.mtE [] mx))
         ·cbv;obtain rfl:=oj h;exact hKn5 _ _ _ rfl (.nz (.mtE [0] mx))
        ·cbv;obtain rfl:=oj h;obtain rfl:=hr5 _ rfl;exact hKn4 _ _ _ rfl (.nz (.mtE [0] mx))
       cbv;obtain rfl:=oj h;exact hKn3 _ _ _ rfl (.nz (.mtE [] mx))
    obtain⟨v5,rfl⟩:=ez t;cbv;refine brkG h ?_ ?_<;>intro h
    ·cbv;obtain rfl:=oj h;obtain rfl:=hr2 _ rfl;obtain rfl:=hr1 _ rfl;exact hK _ _ aw_
    ·cbv;obtain rfl:=oj h;exact hKn2 _ _ _ rfl (.nz (.mtE [] mx))
   ·cbv;obtain rfl:=oj h;obtain rfl:=hr2 _ rfl;exact hKn1 _ _ _ rfl (.nz (.mtE [] mx))
  cbv;obtain rfl:=oj h;exact hK _ _ aw_
end Go.SX.Rg
namespace Go.SX.Rg
open Go Go.SX Go.Proofs
set_option maxRecDepth 100000
noncomputable def registry_Registry_Issue_b (show0:Int)(places0:Int)(titles0:(List (Int×Entry)))(at0:(List (Int×Int)))(place:Int)(first:ByteArray):Option (Int×Int×(List (Int×Entry))×(List (Int×Int))) :=
 Option.bind (
 bif (io.lt place 0) then (
 some true
 ) else (
 bif (io.le places0 place) then (
 some true
 ) else (
 Option.bind (digest_Is_g first) fun v2 =>
 some (io.not v2)
 )
 )
 ) fun v1 =>
 bif v1 then (
 some (0,1,titles0,at0)
 ) else (
 bif (io.le 4000 (io.lenM (WM (Value.int .i64) eEntry titles0))) then (
 some (0,3,titles0,at0)
 ) else (
 Option.bind (some (mlookD at0 place 0)) fun y3 =>
 bif (io.not (io.eq y3 0)) then (
 some (0,16,titles0,at0)
 ) else (
 Option.bind (some (mputG titles0 (io.ar .add .i64 (io.ar .add .i64 (io.ar .mul .i64 (io.ar .add .i64 show0 1) 10000) (io.lenM (WM (Value.int .i64) eEntry titles0))) 1) (Entry.mk (Title.mk (io.ar .add .i64 (io.ar .add .i64 (io.ar .mul .i64 (io.ar .add .i64 show0 1) 10000) (io.lenM (WM (Value.int .i64) eEntry titles0))) 1) show0 place first []) 0))) fun m4 =>
 Option.bind (some (mputG at0 place (io.ar .add .i64 (io.ar .add .i64 (io.ar .mul .i64 (io.ar .add .i64 show0 1) 10000) (io.lenM (WM (Value.int .i64) eEntry titles0))) 1))) fun m5 =>
 some ((io.ar .add .i64 (io.ar .add .i64 (io.ar .mul .i64 (io.ar .add .i64 show0 1) 10000) (io.lenM (WM (Value.int .i64) eEntry titles0))) 1),0,m4,m5)
 )
 )
 )
noncomputable def registry_Registry_Issue_nil_g (place:Int)(first:ByteArray):Option (Int×Int) :=
 Option.bind (
 some ()
 ) fun _ =>
 some (0,1)
end Go.SX.Rg
namespace Go.SX.Rg
open Go Go.SX Go.Proofs
set_option maxRecDepth 100000
def c43r0 : List GOp:=gS 6 [.mv (ci 0),.mv (ci 0)]
def c43r1 : List GOp:=gS 10 [.mv 0,.pnil false 10,.mv 11]++gQ 12 false 13 [.mv 1,.bin .lss 13 (ci 0)]++gS 15 [.pick 12 (cB true) 14,.mv 15]++gQ 16 false 17 [.mv 1,.mv 0,.nilck 18,.fadd 1 19,.load 1 false 20,.bin .geq 17 21]++gS 23 [.pick 16 (cB true) 22,.mv 23]++gQ 24 false 25 [.mv 2,.call 57 [25],.un .not 26]++gS 28 [.pick 24 (cB true) 27]++gS 9 [.mv 28]
def c43r2 : List GOp:=gS 6 [.mv (ci 0),.mv (ci 1)]
def c43r3 : List GOp:=gS 30 [.mv 0,.nilck 30,.fadd 2 31,.load 1 false 32,.mlen 33,.bin .geq 34 (ci 4000)]++gS 29 [.mv 35]
def c43r4 : List GOp:=gS 6 [.mv (ci 0),.mv (ci 3)]
def c43r5 : List GOp:=gS 37 [.mv 0,.nilck 37,.fadd 3 38,.load 1 false 39,.mv 1,.mget (.int .i64) false false oz 40 41,.bin .neq 42 (ci 0)]++gS 36 [.mv 43]
def c43r6 : List GOp:=gS 6 [.mv (ci 0),.mv (ci 16)]
def c43r7 : List GOp:=gS 44 [.mv 0,.nilck 44,.fadd 0 45,.load 1 false 46,.bin .add 47 (ci 1),.bin .mul 48 (ci 10000),.mv 0,.nilck 50,.fadd 2 51,.load 1 false 52,.mlen 53,.bin .add 49 54,.bin .add 55 (ci 1)]++gS 8 [.mv 56]
def c43r8 : List GOp:=gS 57 [.mv 0,.nilck 57,.fadd 2 58,.load 1 false 59,.mv 8,.mv 8,.mv 0,.nilck 63,.fadd 0 64,.load 1 false 65,.mv 1,.mv 2,.build (.agg #[oz,oz,oz,(.string ⟨#[]⟩),(.slice none 0 0)]) [((0,1),62),((1,1),66),((2,1),67),((3,1),68)],.build (.agg #[oz,oz,oz,(.string ⟨#[]⟩),(.slice none 0 0),oz]) [((0,5),69)]]
def c43r8z : List GOp:=[⟨none,.mset (.int .i64) true 60 61 70,none⟩]
def c43r9 : List GOp:=gS 71 [.mv 0,.nilck 71,.fadd 3 72,.load 1 false 73,.mv 1,.mv 8]++[⟨none,.mset (.int .i64) false 74 75 76,none⟩]
def c43r10 : List GOp:=gS 77 [.mv 8]++gS 6 [.mv 77,.mv (ci 0)]
def c43 : EFn:=⟨78,.seq (.reg c43r0) (.seq (.block 0 (.join (.reg c43r1) (.cond 9 (.seq (.reg c43r2) (.ret)) (.seq (.reg c43r3) (.cond 29 (.seq (.reg c43r4) (.ret)) (.seq (.reg c43r5) (.cond 36 (.seq (.reg c43r6) (.ret)) (.skip)))))))) (.seq (.par true true true true 11 c43r7) (.seq (.sfx true true true true c43r8 c43r8z) (.seq (.reg c43r9) (.seq (.reg c43r10) (.ret)))))),[.tmp 6,.tmp 7]⟩
theorem c43_ok : compF Tryz.prog 43=some c43.er:=by kernel_rfl
set_option maxHeartbeats 8000000 in
theorem registry_Registry_Issue_R {P:Program}(hP:P=Tryz.prog)(show0:Int)(places0:Int)(titles0:(List (Int×Entry)))(at0:(List (Int×Int)))(place:Int)(first:ByteArray)(r:Int×Int×(List (Int×Entry))×(List (Int×Int)))(h:registry_Registry_Issue_b show0 places0 titles0 at0 place first=some r):SCall P 43 [.cells [oi show0,oi places0,.hd 1,.hd 2] 74,.mp (.int .i64) true (WM (Value.int .i64) eEntry titles0),.mp (.int .i64) false (WM (Value.int .i64) eIi64 at0)] [.ptr 0 0,oi place,.d (.val (.string first))] (fun sv own'=>sv=.tup [oi r.1,oi r.2.1]∧own'=[.cells [oi show0,oi places0,.hd 1,.hd 2] 74,.mp (.int .i64) true (WM (Value.int .i64) eEntry r.2.2.1),.mp (.int .i64) false (WM (Value.int .i64) eIi64 r.2.2.2)]):=by
 refine .walkF 3 rfl (Nat.le_of_ble_eq_true rfl) (hP▸c43_ok) fun K hK=>?_;unfold registry_Registry_Issue_b at h;cbv;refine .g h (fun (v1:Bool)=>[.ptr 0 0,oi place,.d (.val (.string first))]++rp 6 .top++[ob v1]++rp 68 .top) (fun v1=>[.cells [oi show0,oi places0,.hd 1,.hd 2] 74,.mp (.int .i64) true (WM (Value.int .i64) eEntry titles0),.mp (.int .i64) false (WM (Value.int .i64) eIi64 at0)]) (fun y hm Kn1 hKn1=>?_) fun t h=>?_
 ·have h:=hm;clear hm;cbv;refine brkG h ?_ ?_<;>intro h
  ·cbv;obtain rfl:=oj h;exact hKn1 _ _ _ rfl (.nz (.mtE [0,1,2] mx))
  ·cbv;refine brkG h ?_ ?_<;>intro h
   ·cbv;obtain rfl:=oj h;exact hKn1 _ _ _ rfl (.nz (.mtE [0,1,2] mx))
   ·cbv;refine .g h (fun v hv=>digest_Is_R hP _ v hv) aw_ rfl (fun _=>rfl) fun v2 h=>?_;cbv;obtain rfl:=oj h;exact hKn1 _ _ _ rfl (.nz (.mtE [0,1,2] mx))
 obtain⟨v1,rfl⟩:=ez t;cbv;refine brkG h ?_ ?_<;>intro h
 ·cbv;obtain rfl:=oj h;exact hK _ _ [] [0,1,2] mx
 ·cbv;refine brkG h ?_ ?_<;>intro h
  ·cbv;obtain rfl:=oj h;exact hK _ _ [] [0,1,2] mx
  ·cbv;refine .gi (e:=eIi64) h (by first | rfl | exact WM_nil' _ _) (fun h=>h) fun y3 h=>?_;cbv;refine brkG h ?_ ?_<;>intro h
   ·cbv;obtain rfl:=oj h;exact hK _ _ [] [0,1,2] mx
   ·cbv;refine .gi (e:=eEntry) h (by first | rfl | exact WM_nil' _ _) aw_ fun m4 h=>?_;cbv;refine .gi (e:=eIi64) h (by first | rfl | exact WM_nil' _ _) aw_ fun m5 h=>?_;cbv;obtain rfl:=oj h;exact hK _ _ [] [0,1,2] mx
set_option maxHeartbeats 4000000 in
theorem registry_Registry_Issue_nil_R {P:Program}(hP:P=Tryz.prog)(place:Int)(first:ByteArray)(r:Int×Int)(h:registry_Registry_Issue_nil_g place first=some r):Fn1 P 43 [.d (.val (.pointer none)),vIi64 place,vS first] (.tup [vIi64 r.1,vIi64 r.2]):=by
 refine .walkE (hP▸c43_ok) fun K hK=>?_;unfold registry_Registry_Issue_nil_g at h;cbv;refine .g h (fun (_:Unit)=>[.d (.val (.pointer none)),oi place,.d (.val (.string first))]++rp 6 .top++[ob true]++rp 68 .top) (fun _=>[]) (fun y hm Kn1 hKn1=>?_) fun t h=>?_
 ·have h:=hm;clear hm;cbv;obtain rfl:=oj h;exact hKn1 _ _ _ rfl (.nz (.mtE [] mx))
 cbv;obtain rfl:=oj h;exact hK _ _ aw_
end Go.SX.Rg
