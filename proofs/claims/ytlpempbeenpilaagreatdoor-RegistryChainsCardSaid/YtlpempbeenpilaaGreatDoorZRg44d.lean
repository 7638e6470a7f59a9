/- Parts of the proof. -/
import Derived.Test.YtlpempbeenpilaaGreatDoorZRgT
import Derived.Test.YtlpempbeenpilaaGreatDoorZRg46d
import Derived.Test.YtlpempbeenpilaaGreatDoorZRgH1
import Derived.Test.YtlpempbeenpilaaGreatDoorZRgH0
import Derived.Test.YtlpempbeenpilaaGreatDoorZRg53
set_option linter.unusedSimpArgs false
set_option linter.unusedVariables false
set_option linter.unusedSectionVars false
namespace Go.SX.Rg
open Go Go.SX Go.Proofs
set_option maxRecDepth 100000
noncomputable def digest_Sum_l50 : (Int×Int)→Option ((Int×Int) ⊕ (Int))
 | (x14,v15) =>
 bif (io.lt v15 2) then (
 Option.bind (
 Option.bind (pixG 2 v15) fun i17 =>
 some ((A2.mk (A2.mk 32 11400714819323198485) (A2.mk 29 13787848793156543929)).get i17)
 ) fun step16 =>
 Option.bind (shG step16.a0) fun _ =>
 Option.bind (math_bits_Mul64_g (io.ar .xor .u64 x14 (io.shr .u64 x14 step16.a0)) step16.a1) fun v18 =>
 some (.inl (v18.2,(io.ar .add .i64 v15 1)))
 ) else (
 some (.inr x14)
 )
noncomputable def digest_Sum_l42 (text:ByteArray):(Int×Int×Int×Int)→Option ((Int×Int×Int×Int) ⊕ (Int×Int×Int))
 | (s4,n5,add6,v7) =>
 bif (io.lt v7 (io.ssz text)) then (
 Option.bind (
 Option.bind (idxStr text v7) fun b11 =>
 Option.bind (shG (io.ar .mul .i64 8 n5)) fun _ =>
 bif (io.eq (io.ar .add .i64 n5 1) 8) then (
 Option.bind (
 Option.bind (
 whileG (digest_Sum_l50) ((io.ar .xor .u64 s4 (io.ar .or .u64 add6 (io.shl .u64 (io.wrap .u64 b11) (io.ar .mul .i64 8 n5)))),0)
 ) fun x13 =>
 some (io.ar .xor .u64 x13 (io.shr .u64 x13 (.ofNat 32)))
 ) fun c12 =>
 some (c12,0,0)
 ) else (
 some (s4,(io.ar .add .i64 n5 1),(io.ar .or .u64 add6 (io.shl .u64 (io.wrap .u64 b11) (io.ar .mul .i64 8 n5))))
 )
 ) fun (s8,n9,add10) =>
 some (.inl (s8,n9,add10,(io.ar .add .i64 v7 1)))
 ) else (
 some (.inr (s4,n5,add6))
 )
noncomputable def digest_Sum_l79 : (Int×Int)→Option ((Int×Int) ⊕ (Int))
 | (x25,v26) =>
 bif (io.lt v26 2) then (
 Option.bind (
 Option.bind (pixG 2 v26) fun i28 =>
 some ((A2.mk (A2.mk 32 11400714819323198485) (A2.mk 29 13787848793156543929)).get i28)
 ) fun step27 =>
 Option.bind (shG step27.a0) fun _ =>
 Option.bind (math_bits_Mul64_g (io.ar .xor .u64 x25 (io.shr .u64 x25 step27.a0)) step27.a1) fun v29 =>
 some (.inl (v29.2,(io.ar .add .i64 v26 1)))
 ) else (
 some (.inr x25)
 )
noncomputable def digest_Sum_l92 : (Int×Int)→Option ((Int×Int) ⊕ (Int))
 | (x35,v36) =>
 bif (io.lt v36 2) then (
 Option.bind (
 Option.bind (pixG 2 v36) fun i38 =>
 some ((A2.mk (A2.mk 32 11400714819323198485) (A2.mk 29 13787848793156543929)).get i38)
 ) fun step37 =>
 Option.bind (shG step37.a0) fun _ =>
 Option.bind (math_bits_Mul64_g (io.ar .xor .u64 x35 (io.shr .u64 x35 step37.a0)) step37.a1) fun v39 =>
 some (.inl (v39.2,(io.ar .add .i64 v36 1)))
 ) else (
 some (.inr x35)
 )
noncomputable def digest_Sum_l88 : (Int×Int×Int)→Option ((Int×Int×Int) ⊕ (Int))
 | (s30,n31,add32) =>
 bif (io.lt 0 n31) then (
 Option.bind (shG (io.ar .mul .i64 8 n31)) fun _ =>
 bif (io.eq (io.ar .add .i64 n31 1) 8) then (
 Option.bind (
 Option.bind (
 whileG (digest_Sum_l92) ((io.ar .xor .u64 s30 (io.ar .or .u64 add32 (io.shl .u64 (io.wrap .u64 0) (io.ar .mul .i64 8 n31)))),0)
 ) fun x34 =>
 some (io.ar .xor .u64 x34 (io.shr .u64 x34 (.ofNat 32)))
 ) fun c33 =>
 some (.inl (c33,0,0))
 ) else (
 some (.inl (s30,(io.ar .add .i64 n31 1),(io.ar .or .u64 add32 (io.shl .u64 (io.wrap .u64 0) (io.ar .mul .i64 8 n31)))))
 )
 ) else (
 some (.inr s30)
 )
noncomputable def digest_Sum_g (text:ByteArray):Option (ByteArray) :=
 Option.bind (
 whileG (digest_Sum_l42 text) (7046029254386353131,0,0,0)
 ) fun (s1,n2,add3) =>
 Option.bind (
 Option.bind (
 Option.bind (shG (io.ar .mul .i64 8 n2)) fun _ =>
 bif (io.eq (io.ar .add .i64 n2 1) 8) then (
 Option.bind (
 Option.bind (
 whileG (digest_Sum_l79) ((io.ar .xor .u64 s1 (io.ar .or .u64 add3 (io.shl .u64 (io.wrap .u64 1) (io.ar .mul .i64 8 n2)))),0)
 ) fun x24 =>
 some (io.ar .xor .u64 x24 (io.shr .u64 x24 (.ofNat 32)))
 ) fun c23 =>
 some (c23,0,0)
 ) else (
 some (s1,(io.ar .add .i64 n2 1),(io.ar .or .u64 add3 (io.shl .u64 (io.wrap .u64 1) (io.ar .mul .i64 8 n2))))
 )
 ) fun (s20,n21,add22) =>
 whileG (digest_Sum_l88) (s20,n21,add22)
 ) fun s19 =>
 Option.bind (digest_state_text_g s19) fun v40 =>
 some v40
end Go.SX.Rg
namespace Go.SX.Rg
open Go Go.SX Go.Proofs
set_option maxRecDepth 100000
def c79r0 : List GOp:=[
 gv 5 (.load 1 false (.tmp 1)),
 gv 6 (.mv (.tmp 0)),
 gv 7 (.cvi .u64 (.tmp 6)),
 gv 8 (.load 1 false (.tmp 2)),
 gv 9 (.bin .mul (.const (.int .i64 8)) (.tmp 8)),
 gv 10 (.div .shl (.tmp 7) (.tmp 9)),
 gv 11 (.bin .or (.tmp 5) (.tmp 10))]
def c79r0z : GOp:=⟨none,.store 1 (.tmp 1) (.tmp 11),none⟩
def c79r1 : List GOp:=[
 gv 12 (.load 1 false (.tmp 2)),
 gv 13 (.bin .add (.tmp 12) (.const (.int .i64 1))),
 ⟨none,.store 1 (.tmp 2) (.tmp 13),none⟩]
def c79r2 : List GOp:=[
 gv 14 (.load 1 false (.tmp 2)),
 gv 15 (.bin .eql (.tmp 14) (.const (.int .i64 8)))]
def c79r3 : List GOp:=[
 gv 16 (.load 1 false (.tmp 1)),
 gv 17 (.call 80 [(.tmp 3),(.tmp 16)])]
def c79r4 : List GOp:=[
 ⟨none,.store 1 (.tmp 1) (.const (.int .u64 0)),none⟩,
 ⟨none,.store 1 (.tmp 2) (.const (.int .i64 0)),none⟩]
def c79 : EFn:=⟨18,.seq (.hyl true true true 6 c79r0 c79r0z) (.seq (.reg c79r1) (.seq (.reg c79r2) (.cond (.tmp 15) (.join (.reg c79r3) (.reg c79r4)) (.skip)))),[]⟩
theorem c79_ok : compF Tryz.prog 79=some c79.er:=by kernel_rfl
def c80r0 : List GOp:=[
 gv 7 (.mv (.tmp 0)),
 gv 8 (.nilck (.tmp 7)),
 gv 9 (.load 1 false (.tmp 8)),
 gv 10 (.mv (.tmp 1)),
 gv 11 (.bin .xor (.tmp 9) (.tmp 10)),
 gv 4 (.mv (.tmp 11))]
def c80r1 : List GOp:=[
 gv 12 (.build (.agg #[(.int .u64 0),(.int .u64 0)]) [((0,1),(.const (.int .u64 32))),((1,1),(.const (.int .u64 11400714819323198485)))]),
 gv 13 (.build (.agg #[(.int .u64 0),(.int .u64 0)]) [((0,1),(.const (.int .u64 29))),((1,1),(.const (.int .u64 13787848793156543929)))]),
 gv 14 (.build (.agg #[(.int .u64 0),(.int .u64 0),(.int .u64 0),(.int .u64 0)]) [((0,2),(.tmp 12)),((2,2),(.tmp 13))]),
 gv 15 (.mv (.const (.int .i64 0)))]
def c80r2 : List GOp:=[
 gv 16 (.bin .lss (.tmp 15) (.const (.int .i64 2)))]
def c80r3 : List GOp:=[
 gv 17 (.idxV 2 2 true (.tmp 14) (.tmp 15)),
 gv 6 (.alloc 135 (.agg #[(.int .u64 0),(.int .u64 0)])),
 ⟨none,.store 2 (.tmp 6) (.tmp 17),none⟩]
def c80r4 : List GOp:=[
 gv 18 (.mv (.tmp 4)),
 gv 19 (.mv (.tmp 4)),
 gv 20 (.idxP 2 1 (.tmp 6) (.const (.int .i64 0))),
 gv 21 (.load 1 false (.tmp 20)),
 gv 22 (.div .shr (.tmp 19) (.tmp 21)),
 gv 23 (.bin .xor (.tmp 18) (.tmp 22)),
 gv 4 (.mv (.tmp 23))]
def c80r5 : List GOp:=[
 gv 25 (.mv (.tmp 4)),
 gv 26 (.idxP 2 1 (.tmp 6) (.const (.int .i64 1))),
 gv 27 (.load 1 false (.tmp 26)),
 gv 28 (.call 108 [(.tmp 25),(.tmp 27)]),
 gv 24 (.mv (.tmp 28)),
 gv 29 (.ext (.tmp 24) 0),
 gv 30 (.ext (.tmp 24) 1),
 gv 4 (.mv (.tmp 30))]
def c80r6 : List GOp:=[
 gv 31 (.bin .add (.tmp 15) (.const (.int .i64 1))),
 gv 15 (.mv (.tmp 31))]
def c80l7 : DE:=.seq (.reg c80r2) (.seq (.cond (.tmp 16) (.skip) (.exit 0)) (.seq (.block 1 (.join (.reg c80r3) (.seq (.reg c80r4) (.reg c80r5)))) (.reg c80r6)))
def c80r8 : List GOp:=[
 gv 32 (.mv (.tmp 0)),
 gv 33 (.mv (.tmp 4)),
 gv 34 (.mv (.tmp 4)),
 gv 35 (.bin .shr (.tmp 34) (.const (.int .u64 32))),
 gv 36 (.bin .xor (.tmp 33) (.tmp 35)),
 gv 37 (.nilck (.tmp 32)),
 ⟨none,.store 1 (.tmp 37) (.tmp 36),none⟩]
def c80 : EFn:=⟨38,.seq (.reg c80r0) (.join (.seq (.reg c80r1) (.block 0 (.loop c80l7))) (.reg c80r8)),[]⟩
theorem c80_ok : compF Tryz.prog 80=some c80.er:=by kernel_rfl
def c44r0 : List GOp:=[
 gv 2 (.mv (.const (.string ⟨#[]⟩)))]
def c44r1 : List GOp:=[
 gv 3 (.alloc 108 (.int .u64 0)),
 ⟨none,.store 1 (.tmp 3) (.const (.int .u64 7046029254386353131)),none⟩]
def c44r2 : List GOp:=[
 gv 4 (.alloc 107 (.int .u64 0)),
 gv 5 (.alloc 3 oz),
 ⟨none,.store 1 (.tmp 4) (.const (.int .u64 0)),none⟩,
 ⟨none,.store 1 (.tmp 5) (.const (.int .i64 0)),none⟩]
def c44r3 : List GOp:=[
 gv 8 (.mkfn (.func 79) [] [(.tmp 4),(.tmp 5),(.tmp 3)]),
 gv 6 (.mv (.tmp 8))]
def c44r4 : List GOp:=[
 gv 9 (.mv (.tmp 0)),
 gv 10 (.len true (.tmp 9)),
 gv 11 (.mv (.const (.int .i64 0)))]
def c44r5 : List GOp:=[
 gv 12 (.bin .lss (.tmp 11) (.tmp 10))]
def c44r6 : List GOp:=[
 gv 13 (.mv (.tmp 11)),
 gv 7 (.mv (.tmp 13))]
def c44r7 : List GOp:=[
 gv 14 (.mv (.tmp 6)),
 gv 15 (.mv (.tmp 0)),
 gv 16 (.mv (.tmp 7)),
 gv 17 (.idxS (.tmp 15) (.tmp 16)),
 gv 18 (.callv (.tmp 14) [(.tmp 17)])]
def c44r8 : List GOp:=[
 gv 19 (.bin .add (.tmp 11) (.const (.int .i64 1))),
 gv 11 (.mv (.tmp 19))]
def c44l9 : DE:=.seq (.reg c44r5) (.seq (.cond (.tmp 12) (.skip) (.exit 0)) (.join (.block 1 (.seq (.reg c44r6) (.reg c44r7))) (.reg c44r8)))
def c44r10 : List GOp:=[
 gv 20 (.mv (.tmp 6)),
 gv 21 (.callv (.tmp 20) [(.const (.int .u8 1))])]
def c44r11 : List GOp:=[
 gv 22 (.load 1 false (.tmp 5)),
 gv 23 (.bin .gtr (.tmp 22) (.const (.int .i64 0)))]
def c44r12 : List GOp:=[
 gv 24 (.mv (.tmp 6)),
 gv 25 (.callv (.tmp 24) [(.const (.int .u8 0))])]
def c44l13 : DE:=.seq (.seq (.reg c44r11) (.cond (.tmp 23) (.skip) (.exit 2))) (.block 3 (.reg c44r12))
def c44r14 : List GOp:=[
 gv 26 (.load 1 false (.tmp 3)),
 gv 27 (.call 81 [(.tmp 26)]),
 gv 2 (.mv (.tmp 27))]
def c44 : EFn:=⟨28,.seq (.reg c44r0) (.seq (.reg c44r1) (.seq (.reg c44r2) (.seq (.reg c44r3) (.join (.seq (.reg c44r4) (.block 0 (.loop c44l9))) (.join (.join (.reg c44r10) (.block 2 (.loop c44l13))) (.seq (.reg c44r14) (.ret))))))),[.tmp 2]⟩
theorem c44_ok : compF Tryz.prog 44=some c44.er:=by kernel_rfl
set_option maxHeartbeats 4000000 in
theorem digest_Sum_R {P:Program}(hP:P=Tryz.prog)(text:ByteArray)(r:ByteArray)(h:digest_Sum_g text=some r):Fn1 P 44 [vS text] (vS r):=by
 refine .walkE (hP▸c44_ok) fun K hK=>?_;unfold digest_Sum_g at h;cbv;refine .g h (fun ((s1,n2,add3):Int×Int×Int)=>rp 3 .top++[.ptr 0 0,.top,.ptr 1 0,.clo (.func 79) [] [.ptr 2 0,.ptr 1 0,.ptr 0 0]]++rp 21 .top) (fun (s1,n2,add3)=>[.cells [.d (.val (.int .u64 s1))] 108,.cells [oi n2] 3,.cells [.d (.val (.int .u64 add3))] 107]) (fun y hm Kn1 hKn1=>?_) fun t h=>?_
 ·have h:=hm;clear hm;cbv;refine .g h (fun ((s4,n5,add6,v7):Int×Int×Int×Int)=>[.d (.val (.string text)),.top,.top,.ptr 0 0,.top,.ptr 1 0,.clo (.func 79) [] [.ptr 2 0,.ptr 1 0,.ptr 0 0]]++rp 3 .top++[oi (io.ssz text),oi v7]++rp 16 .top) (fun (s4,n5,add6,v7)=>[.cells [.d (.val (.int .u64 s4))] 108,.cells [oi n5] 3,.cells [.d (.val (.int .u64 add6))] 107]) (.nz (.mtE [0,2,1] ?_)) fun s x h hr2 Kn2 hKn2=>?_
  ·(cbv;repeat (refine⟨an_,?_⟩;cbv))
  unfold digest_Sum_l42 at h;obtain⟨s4,n5,add6,v7⟩:=s;cbv;refine brkG h ?_ ?_<;>intro h
  ·cbv;refine .g h (fun ((s8,n9,add10):Int×Int×Int)=>[.d (.val (.string text)),.top,.top,.ptr 0 0,.top,.ptr 1 0,.clo (.func 79) [] [.ptr 2 0,.ptr 1 0,.ptr 0 0]]++rp 3 .top++[oi (io.ssz text),oi v7]++rp 16 .top) (fun (s8,n9,add10)=>[.cells [.d (.val (.int .u64 s8))] 108,.cells [oi n9] 3,.cells [.d (.val (.int .u64 add10))] 107]) (fun y hm Kn3 hKn3=>?_) fun t h=>?_
   ·have h:=hm;clear hm;cbv;refine .g h fun b11 h=>?_;cbv;refine .inl (hP▸c79_ok) ?_;cbv;refine .g h fun h=>?_;cbv;refine brkG h ?_ ?_<;>intro h
    ·cbv;refine .g h (fun (c12:Int)=>[.top,.ptr 2 0,.ptr 1 0]++rp 15 .top) (fun c12=>[.cells [.d (.val (.int .u64 c12))] 108,.cells [oi (io.ar .add .i64 n5 1)] 3,.cells [.d (.val (.int .u64 (io.ar .or .u64 add6 (io.shl .u64 (io.wrap .u64 b11) (io.ar .mul .i64 8 n5)))))] 107]) (fun y hm Kn4 hKn4=>?_) fun t h=>?_
     ·have h:=hm;clear hm;cbv;refine .inl (hP▸c80_ok) ?_;cbv;refine .g h (fun (x13:Int)=>[.ptr 0 0]++rp 3 .top++[.d (.val (.int .u64 x13))]++rp 33 .top) (fun x13=>[.cells [.d (.val (.int .u64 s4))] 108,.cells [oi (io.ar .add .i64 n5 1)] 3,.cells [.d (.val (.int .u64 (io.ar .or .u64 add6 (io.shl .u64 (io.wrap .u64 b11) (io.ar .mul .i64 8 n5)))))] 107]) (fun y hm Kn5 hKn5=>?_) fun t h=>?_
      ·have h:=hm;clear hm;cbv;refine .g h (fun ((x14,v15):Int×Int)=>[.ptr 0 0]++rp 3 .top++[.d (.val (.int .u64 x14))]++rp 9 .top++[.agg [.d (.val (.int .u64 32)),.d (.val (.int .u64 11400714819323198485)),.d (.val (.int .u64 29)),.d (.val (.int .u64 13787848793156543929))],oi v15]++rp 22 .top) (fun (x14,v15)=>[.cells [.d (.val (.int .u64 s4))] 108,.cells [oi (io.ar .add .i64 n5 1)] 3,.cells [.d (.val (.int .u64 (io.ar .or .u64 add6 (io.shl .u64 (io.wrap .u64 b11) (io.ar .mul .i64 8 n5)))))] 107]) (.nz (.mtE [0,1,2] ?_)) fun s x h hr6 Kn6 hKn6=>?_
       ·(cbv;repeat (refine⟨an_,?_⟩;cbv))
       unfold digest_Sum_l50 at h;obtain⟨x14,v15⟩:=s;cbv;refine brkG h ?_ ?_<;>intro h
       ·cbv;refine .g h (fun (step16:(A2 Int))=>[.ptr 0 0]++rp 3 .top++[.d (.val (.int .u64 x14)),.top,.ptr 3 0]++rp 7 .top++[.agg [.d (.val (.int .u64 32)),.d (.val (.int .u64 11400714819323198485)),.d (.val (.int .u64 29)),.d (.val (.int .u64 13787848793156543929))],oi v15]++rp 22 .top) (fun step16=>[.cells [.d (.val (.int .u64 s4))] 108,.cells [oi (io.ar .add .i64 n5 1)] 3,.cells [.d (.val (.int .u64 (io.ar .or .u64 add6 (io.shl .u64 (io.wrap .u64 b11) (io.ar .mul .i64 8 n5)))))] 107,.cells [.d (.val (.int .u64 step16.a0)),.d (.val (.int .u64 step16.a1))] 135]) (fun y hm Kn7 hKn7=>?_) fun t h=>?_
        ·have h:=hm;clear hm;cbv
         refine .c2 h ?_ ?_<;>(
          intro hni17 h;cbv;obtain rfl:=oj h;refine hKn7 _ _ _ rfl (.nz (.mtE [0,1,2,3] ?_));(cbv;repeat (refine⟨an_,?_⟩;cbv))
          )
        obtain⟨step16,rfl⟩:=ez t;cbv;refine .lit 0 rfl (by decide) ?_;cbv;refine .g h fun h=>?_;cbv;refine .lit 1 rfl (by decide) ?_;cbv;refine .g h (fun v hv=>math_bits_Mul64_R hP _ _ v hv) aw_ rfl (fun _=>rfl) fun v18 h=>?_;cbv;obtain rfl:=oj h;refine hKn6 _ _ _ rfl (.nz (.mtE [0,1,2] ?_));(cbv;repeat (refine⟨an_,?_⟩;cbv))
       ·cbv;obtain rfl:=oj h;obtain rfl:=hr6 _ rfl;refine hKn5 _ _ _ rfl (.nz (.mtE [0,1,2] ?_));(cbv;repeat (refine⟨an_,?_⟩;cbv))
      obtain⟨x13,rfl⟩:=ez t;cbv;obtain rfl:=oj h;refine hKn4 _ _ _ rfl (.nz (.mtE [0,1,2] ?_));(cbv;repeat (refine⟨an_,?_⟩;cbv))
     obtain⟨c12,rfl⟩:=ez t;cbv;obtain rfl:=oj h;refine hKn3 _ _ _ rfl (.nz (.mtE [0,1,2] ?_));(cbv;repeat (refine⟨an_,?_⟩;cbv))
    ·cbv;obtain rfl:=oj h;refine hKn3 _ _ _ rfl (.nz (.mtE [0,1,2] ?_));(cbv;repeat (refine⟨an_,?_⟩;cbv))
   obtain⟨s8,n9,add10⟩:=t;cbv;obtain rfl:=oj h;refine hKn2 _ _ _ rfl (.nz (.mtE [0,1,2] ?_));(cbv;repeat (refine⟨an_,?_⟩;cbv))
  ·cbv;obtain rfl:=oj h;obtain rfl:=hr2 _ rfl;refine hKn1 _ _ _ rfl (.nz (.mtE [0,1,2] ?_));(cbv;repeat (refine⟨an_,?_⟩;cbv))
 obtain⟨s1,n2,add3⟩:=t;cbv;refine .g h (fun (s19:Int)=>rp 3 .top++[.ptr 0 0]++rp 24 .top) (fun s19=>[.cells [.d (.val (.int .u64 s19))] 108]) (fun y hm Kn1 hKn1=>?_) fun t h=>?_
 ·have h:=hm;clear hm;cbv;refine .g h (fun ((s20,n21,add22):Int×Int×Int)=>rp 3 .top++[.ptr 0 0,.top,.ptr 1 0,.clo (.func 79) [] [.ptr 2 0,.ptr 1 0,.ptr 0 0]]++rp 21 .top) (fun (s20,n21,add22)=>[.cells [.d (.val (.int .u64 s20))] 108,.cells [oi n21] 3,.cells [.d (.val (.int .u64 add22))] 107]) (fun y hm Kn2 hKn2=>?_) fun t h=>?_
  ·have h:=hm;clear hm;cbv;refine .inl (hP▸c79_ok) ?_;cbv;refine .g h fun h=>?_;cbv;refine brkG h ?_ ?_<;>intro h
   ·cbv;refine .g h (fun (c23:Int)=>[.top,.ptr 2 0,.ptr 1 0]++rp 15 .top) (fun c23=>[.cells [.d (.val (.int .u64 c23))] 108,.cells [oi (io.ar .add .i64 n2 1)] 3,.cells [.d (.val (.int .u64 (io.ar .or .u64 add3 (io.shl .u64 (io.wrap .u64 1) (io.ar .mul .i64 8 n2)))))] 107]) (fun y hm Kn3 hKn3=>?_) fun t h=>?_
    ·have h:=hm;clear hm;cbv;refine .inl (hP▸c80_ok) ?_;cbv;refine .g h (fun (x24:Int)=>[.ptr 0 0]++rp 3 .top++[.d (.val (.int .u64 x24))]++rp 33 .top) (fun x24=>[.cells [.d (.val (.int .u64 s1))] 108,.cells [oi (io.ar .add .i64 n2 1)] 3,.cells [.d (.val (.int .u64 (io.ar .or .u64 add3 (io.shl .u64 (io.wrap .u64 1) (io.ar .mul .i64 8 n2)))))] 107]) (fun y hm Kn4 hKn4=>?_) fun t h=>?_
     ·have h:=hm;clear hm;cbv;refine .g h (fun ((x25,v26):Int×Int)=>[.ptr 0 0]++rp 3 .top++[.d (.val (.int .u64 x25))]++rp 9 .top++[.agg [.d (.val (.int .u64 32)),.d (.val (.int .u64 11400714819323198485)),.d (.val (.int .u64 29)),.d (.val (.int .u64 13787848793156543929))],oi v26]++rp 22 .top) (fun (x25,v26)=>[.cells [.d (.val (.int .u64 s1))] 108,.cells [oi (io.ar .add .i64 n2 1)] 3,.cells [.d (.val (.int .u64 (io.ar .or .u64 add3 (io.shl .u64 (io.wrap .u64 1) (io.ar .mul .i64 8 n2)))))] 107]) (.nz (.mtE [0,1,2] ?_)) fun s x h hr5 Kn5 hKn5=>?_
      ·(cbv;repeat (refine⟨an_,?_⟩;cbv))
      unfold digest_Sum_l79 at h;obtain⟨x25,v26⟩:=s;cbv;refine brkG h ?_ ?_<;>intro h
      ·cbv;refine .g h (fun (step27:(A2 Int))=>[.ptr 0 0]++rp 3 .top++[.d (.val (.int .u64 x25)),.top,.ptr 3 0]++rp 7 .top++[.agg [.d (.val (.int .u64 32)),.d (.val (.int .u64 11400714819323198485)),.d (.val (.int .u64 29)),.d (.val (.int .u64 13787848793156543929))],oi v26]++rp 22 .top) (fun step27=>[.cells [.d (.val (.int .u64 s1))] 108,.cells [oi (io.ar .add .i64 n2 1)] 3,.cells [.d (.val (.int .u64 (io.ar .or .u64 add3 (io.shl .u64 (io.wrap .u64 1) (io.ar .mul .i64 8 n2)))))] 107,.cells [.d (.val (.int .u64 step27.a0)),.d (.val (.int .u64 step27.a1))] 135]) (fun y hm Kn6 hKn6=>?_) fun t h=>?_
       ·have h:=hm;clear hm;cbv
        refine .c2 h ?_ ?_<;>(
         intro hni28 h;cbv;obtain rfl:=oj h;refine hKn6 _ _ _ rfl (.nz (.mtE [0,1,2,3] ?_));(cbv;repeat (refine⟨an_,?_⟩;cbv))
         )
       obtain⟨step27,rfl⟩:=ez t;cbv;refine .lit 0 rfl (by decide) ?_;cbv;refine .g h fun h=>?_;cbv;refine .lit 1 rfl (by decide) ?_;cbv;refine .g h (fun v hv=>math_bits_Mul64_R hP _ _ v hv) aw_ rfl (fun _=>rfl) fun v29 h=>?_;cbv;obtain rfl:=oj h;refine hKn5 _ _ _ rfl (.nz (.mtE [0,1,2] ?_));(cbv;repeat (refine⟨an_,?_⟩;cbv))
      ·cbv;obtain rfl:=oj h;obtain rfl:=hr5 _ rfl;refine hKn4 _ _ _ rfl (.nz (.mtE [0,1,2] ?_));(cbv;repeat (refine⟨an_,?_⟩;cbv))
     obtain⟨x24,rfl⟩:=ez t;cbv;obtain rfl:=oj h;refine hKn3 _ _ _ rfl (.nz (.mtE [0,1,2] ?_));(cbv;repeat (refine⟨an_,?_⟩;cbv))
    obtain⟨c23,rfl⟩:=ez t;cbv;obtain rfl:=oj h;refine hKn2 _ _ _ rfl (.nz (.mtE [0,1,2] ?_));(cbv;repeat (refine⟨an_,?_⟩;cbv))
   ·cbv;obtain rfl:=oj h;refine hKn2 _ _ _ rfl (.nz (.mtE [0,1,2] ?_));(cbv;repeat (refine⟨an_,?_⟩;cbv))
  obtain⟨s20,n21,add22⟩:=t;cbv;refine .g h (fun ((s30,n31,add32):Int×Int×Int)=>rp 3 .top++[.ptr 0 0,.top,.ptr 1 0,.clo (.func 79) [] [.ptr 2 0,.ptr 1 0,.ptr 0 0]]++rp 21 .top) (fun (s30,n31,add32)=>[.cells [.d (.val (.int .u64 s30))] 108,.cells [oi n31] 3,.cells [.d (.val (.int .u64 add32))] 107]) (.nz (.mtE [0,1,2] ?_)) fun s x h hr2 Kn2 hKn2=>?_
  ·(cbv;repeat (refine⟨an_,?_⟩;cbv))
  unfold digest_Sum_l88 at h;obtain⟨s30,n31,add32⟩:=s;cbv;refine brkG h ?_ ?_<;>intro h
  ·cbv;refine .inl (hP▸c79_ok) ?_;cbv;refine .g h fun h=>?_;cbv;refine brkG h ?_ ?_<;>intro h
   ·cbv;refine .g h (fun (c33:Int)=>[.top,.ptr 2 0,.ptr 1 0]++rp 15 .top) (fun c33=>[.cells [.d (.val (.int .u64 c33))] 108,.cells [oi (io.ar .add .i64 n31 1)] 3,.cells [.d (.val (.int .u64 (io.ar .or .u64 add32 (io.shl .u64 (io.wrap .u64 0) (io.ar .mul .i64 8 n31)))))] 107]) (fun y hm Kn3 hKn3=>?_) fun t h=>?_
    ·have h:=hm;clear hm;cbv;refine .inl (hP▸c80_ok) ?_;cbv;refine .g h (fun (x34:Int)=>[.ptr 0 0]++rp 3 .top++[.d (.val (.int .u64 x34))]++rp 33 .top) (fun x34=>[.cells [.d (.val (.int .u64 s30))] 108,.cells [oi (io.ar .add .i64 n31 1)] 3,.cells [.d (.val (.int .u64 (io.ar .or .u64 add32 (io.shl .u64 (io.wrap .u64 0) (io.ar .mul .i64 8 n31)))))] 107]) (fun y hm Kn4 hKn4=>?_) fun t h=>?_
     ·have h:=hm;clear hm;cbv;refine .g h (fun ((x35,v36):Int×Int)=>[.ptr 0 0]++rp 3 .top++[.d (.val (.int .u64 x35))]++rp 9 .top++[.agg [.d (.val (.int .u64 32)),.d (.val (.int .u64 11400714819323198485)),.d (.val (.int .u64 29)),.d (.val (.int .u64 13787848793156543929))],oi v36]++rp 22 .top) (fun (x35,v36)=>[.cells [.d (.val (.int .u64 s30))] 108,.cells [oi (io.ar .add .i64 n31 1)] 3,.cells [.d (.val (.int .u64 (io.ar .or .u64 add32 (io.shl .u64 (io.wrap .u64 0) (io.ar .mul .i64 8 n31)))))] 107]) (.nz (.mtE [0,1,2] ?_)) fun s x h hr5 Kn5 hKn5=>?_
      ·(cbv;repeat (refine⟨an_,?_⟩;cbv))
      unfold digest_Sum_l92 at h;obtain⟨x35,v36⟩:=s;cbv;refine brkG h ?_ ?_<;>intro h
      ·cbv;refine .g h (fun (step37:(A2 Int))=>[.ptr 0 0]++rp 3 .top++[.d (.val (.int .u64 x35)),.top,.ptr 3 0]++rp 7 .top++[.agg [.d (.val (.int .u64 32)),.d (.val (.int .u64 11400714819323198485)),.d (.val (.int .u64 29)),.d (.val (.int .u64 13787848793156543929))],oi v36]++rp 22 .top) (fun step37=>[.cells [.d (.val (.int .u64 s30))] 108,.cells [oi (io.ar .add .i64 n31 1)] 3,.cells [.d (.val (.int .u64 (io.ar .or .u64 add32 (io.shl .u64 (io.wrap .u64 0) (io.ar .mul .i64 8 n31)))))] 107,.cells [.d (.val (.int .u64 step37.a0)),.d (.val (.int .u64 step37.a1))] 135]) (fun y hm Kn6 hKn6=>?_) fun t h=>?_
       ·have h:=hm;clear hm;cbv
        refine .c2 h ?_ ?_<;>(
         intro hni38 h;cbv;obtain rfl:=oj h;refine hKn6 _ _ _ rfl (.nz (.mtE [0,1,2,3] ?_));(cbv;repeat (refine⟨an_,?_⟩;cbv))
         )
       obtain⟨step37,rfl⟩:=ez t;cbv;refine .lit 0 rfl (by decide) ?_;cbv;refine .g h fun h=>?_;cbv;refine .lit 1 rfl (by decide) ?_;cbv;refine .g h (fun v hv=>math_bits_Mul64_R hP _ _ v hv) aw_ rfl (fun _=>rfl) fun v39 h=>?_;cbv;obtain rfl:=oj h;refine hKn5 _ _ _ rfl (.nz (.mtE [0,1,2] ?_));(cbv;repeat (refine⟨an_,?_⟩;cbv))
      ·cbv;obtain rfl:=oj h;obtain rfl:=hr5 _ rfl;refine hKn4 _ _ _ rfl (.nz (.mtE [0,1,2] ?_));(cbv;repeat (refine⟨an_,?_⟩;cbv))
     obtain⟨x34,rfl⟩:=ez t;cbv;obtain rfl:=oj h;refine hKn3 _ _ _ rfl (.nz (.mtE [0,1,2] ?_));(cbv;repeat (refine⟨an_,?_⟩;cbv))
    obtain⟨c33,rfl⟩:=ez t;cbv;obtain rfl:=oj h;refine hKn2 _ _ _ rfl (.nz (.mtE [0,1,2] ?_));(cbv;repeat (refine⟨an_,?_⟩;cbv))
   ·cbv;obtain rfl:=oj h;refine hKn2 _ _ _ rfl (.nz (.mtE [0,1,2] ?_));(cbv;repeat (refine⟨an_,?_⟩;cbv))
  ·cbv;obtain rfl:=oj h;obtain rfl:=hr2 _ rfl;refine hKn1 _ _ _ rfl (.nz (.mtE [0] ?_));(cbv;repeat (refine⟨an_,?_⟩;cbv))
 obtain⟨s19,rfl⟩:=ez t;cbv;refine .g h (fun v hv=>digest_state_text_R hP _ v hv) aw_ rfl (fun _=>rfl) fun v40 h=>?_;cbv;obtain rfl:=oj h;exact hK _ _ aw_
end Go.SX.Rg
namespace Go.SX.Rg
open Go Go.SX Go.Proofs
set_option maxRecDepth 100000
noncomputable def digest_Chain_l2 (n:Int):(ByteArray×Int)→Option ((ByteArray×Int) ⊕ (ByteArray))
 | (text2,v3) =>
 bif (io.lt v3 (io.mm true 0 (io.mm false n 1000))) then (
 Option.bind (digest_Sum_g text2) fun text4 =>
 some (.inl (text4,(io.ar .add .i64 v3 1)))
 ) else (
 some (.inr text2)
 )
noncomputable def digest_Chain_g (text:ByteArray)(n:Int):Option (ByteArray) :=
 Option.bind (
 whileG (digest_Chain_l2 n) (text,0)
 ) fun text1 =>
 some text1
end Go.SX.Rg
namespace Go.SX.Rg
open Go Go.SX Go.Proofs
set_option maxRecDepth 100000
def c96r0 : List GOp:=[
 gv 4 (.mv (.const (.string ⟨#[]⟩)))]
def c96r1 : List GOp:=[
 gv 5 (.mv (.tmp 1)),
 gv 6 (.mm false (.tmp 5) [(.const (.int .i64 1000))]),
 gv 7 (.mm true (.const (.int .i64 0)) [(.tmp 6)]),
 gv 8 (.mv (.const (.int .i64 0)))]
def c96r2 : List GOp:=[
 gv 9 (.bin .lss (.tmp 8) (.tmp 7))]
def c96r3 : List GOp:=[
 gv 10 (.mv (.tmp 0)),
 gv 11 (.call 44 [(.tmp 10)]),
 gv 0 (.mv (.tmp 11))]
def c96r4 : List GOp:=[
 gv 12 (.bin .add (.tmp 8) (.const (.int .i64 1))),
 gv 8 (.mv (.tmp 12))]
def c96l5 : DE:=.seq (.reg c96r2) (.seq (.cond (.tmp 9) (.skip) (.exit 0)) (.seq (.block 1 (.reg c96r3)) (.reg c96r4)))
def c96r6 : List GOp:=[
 gv 13 (.mv (.tmp 0)),
 gv 4 (.mv (.tmp 13))]
def c96 : EFn:=⟨14,.seq (.reg c96r0) (.join (.seq (.reg c96r1) (.block 0 (.loop c96l5))) (.seq (.reg c96r6) (.ret))),[.tmp 4]⟩
theorem c96_ok : compF Tryz.prog 96=some c96.er:=by kernel_rfl
set_option maxHeartbeats 4000000 in
theorem digest_Chain_R {P:Program}(hP:P=Tryz.prog)(text:ByteArray)(n:Int)(r:ByteArray)(h:digest_Chain_g text n=some r):Fn1 P 96 [vS text,vIi64 n] (vS r):=by
 refine .walkE (hP▸c96_ok) fun K hK=>?_;unfold digest_Chain_g at h;cbv;refine .g h (fun (text1:ByteArray)=>[.d (.val (.string text1))]++rp 13 .top) (fun text1=>[]) (fun y hm Kn1 hKn1=>?_) fun t h=>?_
 ·have h:=hm;clear hm;cbv;refine .g h (fun ((text2,v3):ByteArray×Int)=>[.d (.val (.string text2))]++rp 6 .top++[oi (io.mm true 0 (io.mm false n 1000)),oi v3]++rp 5 .top) (fun (text2,v3)=>[]) (.nz (.mtE [] ?_)) fun s x h hr2 Kn2 hKn2=>?_
  ·(cbv;repeat (refine⟨an_,?_⟩;cbv))
  unfold digest_Chain_l2 at h;obtain⟨text2,v3⟩:=s;cbv;refine brkG h ?_ ?_<;>intro h
  ·cbv;refine .g h (fun v hv=>digest_Sum_R hP _ v hv) aw_ rfl (fun _=>rfl) fun text4 h=>?_;cbv;obtain rfl:=oj h;refine hKn2 _ _ _ rfl (.nz (.mtE [] ?_));(cbv;repeat (refine⟨an_,?_⟩;cbv))
  ·cbv;obtain rfl:=oj h;obtain rfl:=hr2 _ rfl;refine hKn1 _ _ _ rfl (.nz (.mtE [] ?_));(cbv;repeat (refine⟨an_,?_⟩;cbv))
 obtain⟨text1,rfl⟩:=ez t;cbv;obtain rfl:=oj h;exact hK _ _ aw_
end Go.SX.Rg
namespace Go.SX.Rg
open Go Go.SX Go.Proofs
set_option maxRecDepth 100000
noncomputable def digest_Is_g (text:ByteArray):Option (Bool) :=
 bif (io.eq (io.ssz text) 16) then (
 Option.bind (strings_Trim_g text (⟨#[48,49,50,51,52,53,54,55,56,57,97,98,99,100,101,102]⟩)) fun v1 =>
 some (io.seq v1 (⟨#[]⟩))
 ) else (
 some false
 )
end Go.SX.Rg
namespace Go.SX.Rg
open Go Go.SX Go.Proofs
set_option maxRecDepth 100000
def c57r0 : List GOp:=[
 gv 2 (.mv (.const (.bool false)))]
def c57r1 : List GOp:=[
 gv 3 (.mv (.tmp 0)),
 gv 4 (.len true (.tmp 3)),
 gv 5 (.bin .eql (.tmp 4) (.const (.int .i64 16))),
 gv 6 (.mv (.tmp 5)),
 gw 7 6 true (.mv (.tmp 0)),
 gw 8 6 true (.call 97 [(.tmp 7),(.const (.string ⟨#[48,49,50,51,52,53,54,55,56,57,97,98,99,100,101,102]⟩))]),
 gw 9 6 true (.bin .eql (.tmp 8) (.const (.string ⟨#[]⟩))),
 gv 10 (.pick (.tmp 6) (.tmp 9) (.const (.bool false))),
 gv 2 (.mv (.tmp 10))]
def c57 : EFn:=⟨11,.seq (.reg c57r0) (.seq (.reg c57r1) (.ret)),[.tmp 2]⟩
theorem c57_ok : compF Tryz.prog 57=some c57.er:=by kernel_rfl
set_option maxHeartbeats 4000000 in
theorem digest_Is_R {P:Program}(hP:P=Tryz.prog)(text:ByteArray)(r:Bool)(h:digest_Is_g text=some r):Fn1 P 57 [vS text] (vB r):=by
 refine .walkE (hP▸c57_ok) fun K hK=>?_;unfold digest_Is_g at h;cbv;refine brkG h ?_ ?_<;>intro h
 ·cbv;refine .g h (fun v hv=>strings_Trim_R hP _ _ v hv) aw_ rfl (fun _=>rfl) fun v1 h=>?_;cbv;obtain rfl:=oj h;exact hK _ _ aw_
 ·cbv;obtain rfl:=oj h;exact hK _ _ aw_
end Go.SX.Rg
namespace Go.SX.Rg
open Go Go.SX Go.Proofs
set_option maxRecDepth 100000
noncomputable def title_formed_l26 (x4:Transfer):Int→Option ((Int) ⊕ ((Unit) ⊕ (Bool)))
 | v7 =>
 bif (io.lt v7 (io.len (W eS x4.Sig))) then (
 Option.bind (
 Option.bind (idxG x4.Sig v7) fun x9 =>
 Option.bind (digest_Is_g x9) fun v10 =>
 some (io.not v10)
 ) fun v8 =>
 bif v8 then (
 some (.inr (.inr (io.le 0 v7)))
 ) else (
 some (.inl (io.ar .add .i64 v7 1))
 )
 ) else (
 some (.inr (.inl ()))
 )
noncomputable def title_formed_l22 (t_:Title):Int→Option ((Int) ⊕ ((Unit) ⊕ (Bool)))
 | v3 =>
 bif (io.lt v3 (io.len (W eTransfer t_.Chain))) then (
 Option.bind (idxG t_.Chain v3) fun x4 =>
 Option.bind (
 bif (io.not (io.eq (io.len (W eS x4.Sig)) 18)) then (
 some true
 ) else (
 Option.bind (digest_Is_g x4.To) fun v6 =>
 bif (io.not v6) then (
 some true
 ) else (
 orR (
 whileG (title_formed_l26 x4) 0
 ) fun _ =>
 some (io.le 0 (-1))
 )
 )
 ) fun v5 =>
 bif v5 then (
 some (.inr (.inr false))
 ) else (
 some (.inl (io.ar .add .i64 v3 1))
 )
 ) else (
 some (.inr (.inl ()))
 )
noncomputable def title_formed_g (t_:Title):Option (Bool) :=
 Option.bind (
 bif (io.lt t_.Show 0) then (
 some true
 ) else (
 bif (io.le 20 t_.Show) then (
 some true
 ) else (
 bif (io.lt (io.ar .sub .i64 t_.Serial (io.ar .mul .i64 (io.ar .add .i64 t_.Show 1) 10000)) 1) then (
 some true
 ) else (
 bif (io.lt 9999 (io.ar .sub .i64 t_.Serial (io.ar .mul .i64 (io.ar .add .i64 t_.Show 1) 10000))) then (
 some true
 ) else (
 bif (io.lt t_.Place (-1)) then (
 some true
 ) else (
 bif (io.le 4000 t_.Place) then (
 some true
 ) else (
 Option.bind (digest_Is_g t_.First) fun v2 =>
 bif (io.not v2) then (
 some true
 ) else (
 some (io.lt 50 (io.len (W eTransfer t_.Chain)))
 )
 )
 )
 )
 )
 )
 )
 ) fun v1 =>
 bif v1 then (
 some false
 ) else (
 orR (
 whileG (title_formed_l22 t_) 0
 ) fun _ =>
 some true
 )
end Go.SX.Rg
namespace Go.SX.Rg
open Go Go.SX Go.Proofs
set_option maxRecDepth 100000
def c105r0 : List GOp:=[
 gv 4 (.mv (.const (.bool false)))]
def c105r1 : List GOp:=[
 gv 5 (.mv (.tmp 0)),
 gv 6 (.mv (.tmp 1)),
 gv 7 (.call 125 [(.tmp 5),(.tmp 6)]),
 gv 8 (.bin .geq (.tmp 7) (.const (.int .i64 0))),
 gv 4 (.mv (.tmp 8))]
def c105 : EFn:=⟨9,.seq (.reg c105r0) (.seq (.reg c105r1) (.ret)),[.tmp 4]⟩
theorem c105_ok : compF Tryz.prog 105=some c105.er:=by kernel_rfl
def c125r0 : List GOp:=[
 gv 4 (.mv (.const (.int .i64 0)))]
def c125r1 : List GOp:=[
 gv 6 (.mv (.tmp 0)),
 gv 7 (.len false (.tmp 6)),
 gv 8 (.mv (.const (.int .i64 0)))]
def c125r2 : List GOp:=[
 gv 9 (.bin .lss (.tmp 8) (.tmp 7))]
def c125r3 : List GOp:=[
 gv 10 (.mv (.tmp 8)),
 gv 5 (.mv (.tmp 10))]
def c125r4 : List GOp:=[
 gv 11 (.mv (.tmp 1)),
 gv 12 (.mv (.tmp 0)),
 gv 13 (.mv (.tmp 5)),
 gv 14 (.idxA 1 (.tmp 12) (.tmp 13)),
 gv 15 (.load 1 false (.tmp 14)),
 gv 16 (.callv (.tmp 11) [(.tmp 15)])]
def c125r5 : List GOp:=[
 gv 17 (.mv (.tmp 5)),
 gv 4 (.mv (.tmp 17))]
def c125r6 : List GOp:=[
 gv 18 (.bin .add (.tmp 8) (.const (.int .i64 1))),
 gv 8 (.mv (.tmp 18))]
def c125l7 : DE:=.seq (.reg c125r2) (.seq (.cond (.tmp 9) (.skip) (.exit 0)) (.seq (.block 1 (.seq (.reg c125r3) (.join (.reg c125r4) (.cond (.tmp 16) (.seq (.reg c125r5) (.ret)) (.skip))))) (.reg c125r6)))
def c125r8 : List GOp:=[
 gv 4 (.mv (.const (.int .i64 (-1))))]
def c125 : EFn:=⟨19,.seq (.reg c125r0) (.join (.seq (.reg c125r1) (.block 0 (.loop c125l7))) (.seq (.reg c125r8) (.ret))),[.tmp 4]⟩
theorem c125_ok : compF Tryz.prog 125=some c125.er:=by kernel_rfl
def c106r0 : List GOp:=[
 gv 2 (.mv (.const (.bool false)))]
def c106r1 : List GOp:=[
 gv 3 (.mv (.tmp 0)),
 gv 4 (.call 57 [(.tmp 3)]),
 gv 5 (.un .not (.tmp 4)),
 gv 2 (.mv (.tmp 5))]
def c106 : EFn:=⟨6,.seq (.reg c106r0) (.seq (.reg c106r1) (.ret)),[.tmp 2]⟩
theorem c106_ok : compF Tryz.prog 106=some c106.er:=by kernel_rfl
def c72r0 : List GOp:=[
 gv 1 (.box 35 (.tmp 0)),
 gv 2 (.mv (.const (.bool false)))]
def c72r1 : List GOp:=[
 gv 6 (.fadd 0 (.tmp 1)),
 gv 7 (.load 1 false (.tmp 6)),
 gv 8 (.fadd 1 (.tmp 1)),
 gv 9 (.load 1 false (.tmp 8)),
 gv 10 (.bin .add (.tmp 9) (.const (.int .i64 1))),
 gv 11 (.bin .mul (.tmp 10) (.const (.int .i64 10000))),
 gv 12 (.bin .sub (.tmp 7) (.tmp 11)),
 gv 3 (.mv (.tmp 12))]
def c72r2 : List GOp:=[
 gv 13 (.fadd 1 (.tmp 1)),
 gv 14 (.load 1 false (.tmp 13)),
 gv 15 (.bin .lss (.tmp 14) (.const (.int .i64 0))),
 gv 16 (.mv (.tmp 15)),
 gw 17 16 false (.fadd 1 (.tmp 1)),
 gw 18 16 false (.load 1 false (.tmp 17)),
 gw 19 16 false (.bin .geq (.tmp 18) (.const (.int .i64 20))),
 gv 20 (.pick (.tmp 16) (.const (.bool true)) (.tmp 19)),
 gv 21 (.mv (.tmp 20)),
 gw 22 21 false (.mv (.tmp 3)),
 gw 23 21 false (.bin .lss (.tmp 22) (.const (.int .i64 1))),
 gv 24 (.pick (.tmp 21) (.const (.bool true)) (.tmp 23)),
 gv 25 (.mv (.tmp 24)),
 gw 26 25 false (.mv (.tmp 3)),
 gw 27 25 false (.bin .gtr (.tmp 26) (.const (.int .i64 9999))),
 gv 28 (.pick (.tmp 25) (.const (.bool true)) (.tmp 27)),
 gv 29 (.mv (.tmp 28)),
 gw 30 29 false (.fadd 2 (.tmp 1)),
 gw 31 29 false (.load 1 false (.tmp 30)),
 gw 32 29 false (.bin .lss (.tmp 31) (.const (.int .i64 (-1)))),
 gv 33 (.pick (.tmp 29) (.const (.bool true)) (.tmp 32)),
 gv 34 (.mv (.tmp 33)),
 gw 35 34 false (.fadd 2 (.tmp 1)),
 gw 36 34 false (.load 1 false (.tmp 35)),
 gw 37 34 false (.bin .geq (.tmp 36) (.const (.int .i64 4000))),
 gv 38 (.pick (.tmp 34) (.const (.bool true)) (.tmp 37)),
 gv 39 (.mv (.tmp 38)),
 gw 40 39 false (.fadd 3 (.tmp 1)),
 gw 41 39 false (.load 1 false (.tmp 40)),
 gw 42 39 false (.call 57 [(.tmp 41)]),
 gw 43 39 false (.un .not (.tmp 42)),
 gv 44 (.pick (.tmp 39) (.const (.bool true)) (.tmp 43)),
 gv 45 (.mv (.tmp 44)),
 gw 46 45 false (.fadd 4 (.tmp 1)),
 gw 47 45 false (.load 1 false (.tmp 46)),
 gw 48 45 false (.len false (.tmp 47)),
 gw 49 45 false (.bin .gtr (.tmp 48) (.const (.int .i64 50))),
 gv 50 (.pick (.tmp 45) (.const (.bool true)) (.tmp 49))]
def c72r3 : List GOp:=[
 gv 2 (.mv (.const (.bool false)))]
def c72r4 : List GOp:=[
 gv 51 (.fadd 4 (.tmp 1)),
 gv 52 (.load 1 false (.tmp 51)),
 gv 53 (.len false (.tmp 52)),
 gv 54 (.mv (.const (.int .i64 0)))]
def c72r5 : List GOp:=[
 gv 55 (.bin .lss (.tmp 54) (.tmp 53))]
def c72r6 : List GOp:=[
 gv 56 (.idxA 2 (.tmp 52) (.tmp 54)),
 gv 57 (.load 2 true (.tmp 56)),
 gv 5 (.alloc 46 (.agg #[(.string ⟨#[]⟩),(.slice none 0 0)])),
 ⟨none,.store 2 (.tmp 5) (.tmp 57),none⟩]
def c72r7 : List GOp:=[
 gv 58 (.fadd 1 (.tmp 5)),
 gv 59 (.load 1 false (.tmp 58)),
 gv 60 (.len false (.tmp 59)),
 gv 61 (.bin .neq (.tmp 60) (.const (.int .i64 18))),
 gv 62 (.mv (.tmp 61)),
 gw 63 62 false (.fadd 0 (.tmp 5)),
 gw 64 62 false (.load 1 false (.tmp 63)),
 gw 65 62 false (.call 57 [(.tmp 64)]),
 gw 66 62 false (.un .not (.tmp 65)),
 gv 67 (.pick (.tmp 62) (.const (.bool true)) (.tmp 66)),
 gv 68 (.mv (.tmp 67)),
 gw 69 68 false (.fadd 1 (.tmp 5)),
 gw 70 68 false (.load 1 false (.tmp 69)),
 gw 71 68 false (.call 105 [(.tmp 70),(.func 106)]),
 gv 72 (.pick (.tmp 68) (.const (.bool true)) (.tmp 71))]
def c72r8 : List GOp:=[
 gv 2 (.mv (.const (.bool false)))]
def c72r9 : List GOp:=[
 gv 73 (.bin .add (.tmp 54) (.const (.int .i64 1))),
 gv 54 (.mv (.tmp 73))]
def c72l10 : DE:=.seq (.reg c72r5) (.seq (.cond (.tmp 55) (.skip) (.exit 0)) (.seq (.block 1 (.seq (.reg c72r6) (.join (.reg c72r7) (.cond (.tmp 72) (.seq (.reg c72r8) (.ret)) (.skip))))) (.reg c72r9)))
def c72r11 : List GOp:=[
 gv 2 (.mv (.const (.bool true)))]
def c72 : EFn:=⟨74,.seq (.reg c72r0) (.seq (.reg c72r1) (.seq (.join (.reg c72r2) (.cond (.tmp 50) (.seq (.reg c72r3) (.ret)) (.skip))) (.join (.seq (.reg c72r4) (.block 0 (.loop c72l10))) (.seq (.reg c72r11) (.ret))))),[.tmp 2]⟩
theorem c72_ok : compF Tryz.prog 72=some c72.er:=by kernel_rfl
set_option maxHeartbeats 4000000 in
theorem title_formed_R {P:Program}(hP:P=Tryz.prog)(t_:Title)(r:Bool)(h:title_formed_g t_=some r):Fn1 P 72 [vTitle t_] (vB r):=by
 refine .walkE (hP▸c72_ok) fun K hK=>?_;unfold title_formed_g at h;cbv;refine .g h (fun (v1:Bool)=>[.top,.ptr 0 0]++rp 48 .top++[ob v1]++rp 23 .top) (fun v1=>[.cells [oi t_.Serial,oi t_.Show,oi t_.Place,.d (.val (.string t_.First)),.d (.sl (W eTransfer t_.Chain))] 35]) (fun y hm Kn1 hKn1=>?_) fun t h=>?_
 ·have h:=hm;clear hm;cbv;refine brkG h ?_ ?_<;>intro h
  ·cbv;obtain rfl:=oj h;refine hKn1 _ _ _ rfl (.nz (.mtE [0] ?_));(cbv;repeat (refine⟨an_,?_⟩;cbv))
  ·cbv;refine brkG h ?_ ?_<;>intro h
   ·cbv;obtain rfl:=oj h;refine hKn1 _ _ _ rfl (.nz (.mtE [0] ?_));(cbv;repeat (refine⟨an_,?_⟩;cbv))
   ·cbv;refine brkG h ?_ ?_<;>intro h
    ·cbv;obtain rfl:=oj h;refine hKn1 _ _ _ rfl (.nz (.mtE [0] ?_));(cbv;repeat (refine⟨an_,?_⟩;cbv))
    ·cbv;refine brkG h ?_ ?_<;>intro h
     ·cbv;obtain rfl:=oj h;refine hKn1 _ _ _ rfl (.nz (.mtE [0] ?_));(cbv;repeat (refine⟨an_,?_⟩;cbv))
     ·cbv;refine brkG h ?_ ?_<;>intro h
      ·cbv;obtain rfl:=oj h;refine hKn1 _ _ _ rfl (.nz (.mtE [0] ?_));(cbv;repeat (refine⟨an_,?_⟩;cbv))
      ·cbv;refine brkG h ?_ ?_<;>intro h
       ·cbv;obtain rfl:=oj h;refine hKn1 _ _ _ rfl (.nz (.mtE [0] ?_));(cbv;repeat (refine⟨an_,?_⟩;cbv))
       ·cbv;refine .g h (fun v hv=>digest_Is_R hP _ v hv) aw_ rfl (fun _=>rfl) fun v2 h=>?_;cbv;refine brkG h ?_ ?_<;>intro h
        ·cbv;obtain rfl:=oj h;refine hKn1 _ _ _ rfl (.nz (.mtE [0] ?_));(cbv;repeat (refine⟨an_,?_⟩;cbv))
        ·cbv;obtain rfl:=oj h;refine hKn1 _ _ _ rfl (.nz (.mtE [0] ?_));(cbv;repeat (refine⟨an_,?_⟩;cbv))
 obtain⟨v1,rfl⟩:=ez t;cbv;refine brkG h ?_ ?_<;>intro h
 ·cbv;obtain rfl:=oj h;exact hK _ _ aw_
 ·cbv;refine .ga h (fun (_:Unit)=>rp 74 .top) (fun _=>[]) (fun y hm hr1 Kn1 hKn1=>?_) fun t h=>?_
  ·have h:=hm;clear hm;cbv;refine .g h (fun (v3:Int)=>rp 52 .top++[.d (.sl (W eTransfer t_.Chain)),oi (io.len (W eTransfer t_.Chain)),oi v3]++rp 19 .top) (fun v3=>[]) (.nz (.mtE [] ?_)) fun s x h hr2 Kn2 hKn2=>?_
   ·(cbv;repeat (refine⟨an_,?_⟩;cbv))
   unfold title_formed_l22 at h;obtain⟨v3,rfl⟩:=ez s;cbv;refine brkG h ?_ ?_<;>intro h
   ·cbv;refine .g h (fun _=>rfl) fun x4 h=>?_;cbv;refine .g h (fun (v5:Bool)=>rp 52 .top++[.d (.sl (W eTransfer t_.Chain)),oi (io.len (W eTransfer t_.Chain)),oi v3]++rp 17 .top++[ob v5,.top]) (fun v5=>[]) (fun y hm Kn3 hKn3=>?_) fun t h=>?_
    ·have h:=hm;clear hm;cbv;refine brkG h ?_ ?_<;>intro h
     ·cbv;obtain rfl:=oj h;refine hKn3 _ _ _ rfl (.nz (.mtE [] ?_));(cbv;repeat (refine⟨an_,?_⟩;cbv))
     ·cbv;refine .g h (fun v hv=>digest_Is_R hP _ v hv) aw_ rfl (fun _=>rfl) fun v6 h=>?_;cbv;refine brkG h ?_ ?_<;>intro h
      ·cbv;obtain rfl:=oj h;refine hKn3 _ _ _ rfl (.nz (.mtE [] ?_));(cbv;repeat (refine⟨an_,?_⟩;cbv))
      ·cbv;refine .inl (hP▸c105_ok) ?_;cbv;refine .inl (hP▸c125_ok) ?_;cbv;refine .ga h (fun (_:Unit)=>rp 19 .top) (fun _=>[.cells [.d (.val (.string x4.To)),.d (.sl (W eS x4.Sig))] 46]) (fun y hm hr4 Kn4 hKn4=>?_) fun t h=>?_
       ·have h:=hm;clear hm;cbv;refine .g h (fun (v7:Int)=>[.d (.sl (W eS x4.Sig)),.clo (.func 106) [] []]++rp 5 .top++[oi (io.len (W eS x4.Sig)),oi v7]++rp 10 .top) (fun v7=>[.cells [.d (.val (.string x4.To)),.d (.sl (W eS x4.Sig))] 46]) (.nz (.mtE [0] ?_)) fun s x h hr5 Kn5 hKn5=>?_
        ·(cbv;repeat (refine⟨an_,?_⟩;cbv))
        unfold title_formed_l26 at h;obtain⟨v7,rfl⟩:=ez s;cbv;refine brkG h ?_ ?_<;>intro h
        ·cbv;refine .g h (fun (v8:Bool)=>[.d (.sl (W eS x4.Sig)),.clo (.func 106) [] []]++rp 3 .top++[oi v7,.top,oi (io.len (W eS x4.Sig)),oi v7]++rp 7 .top++[ob v8,.top,.top]) (fun v8=>[.cells [.d (.val (.string x4.To)),.d (.sl (W eS x4.Sig))] 46]) (fun y hm Kn6 hKn6=>?_) fun t h=>?_
         ·have h:=hm;clear hm;cbv;refine .g h (fun _=>rfl) fun x9 h=>?_;cbv;refine .inl (hP▸c106_ok) ?_;cbv;refine .g h (fun v hv=>digest_Is_R hP _ v hv) aw_ rfl (fun _=>rfl) fun v10 h=>?_;cbv;obtain rfl:=oj h;refine hKn6 _ _ _ rfl (.nz (.mtE [0] ?_));(cbv;repeat (refine⟨an_,?_⟩;cbv))
         obtain⟨v8,rfl⟩:=ez t;cbv;refine brkG h ?_ ?_<;>intro h
         ·cbv;obtain rfl:=oj h;obtain rfl:=hr5 _ rfl;obtain rfl:=hr4 _ rfl;refine hKn3 _ _ _ rfl (.nz (.mtE [] ?_));(cbv;repeat (refine⟨an_,?_⟩;cbv))
         ·cbv;obtain rfl:=oj h;refine hKn5 _ _ _ rfl (.nz (.mtE [0] ?_));(cbv;repeat (refine⟨an_,?_⟩;cbv))
        ·cbv;obtain rfl:=oj h;obtain rfl:=hr5 _ rfl;refine hKn4 _ _ _ rfl (.nz (.mtE [0] ?_));(cbv;repeat (refine⟨an_,?_⟩;cbv))
       cbv;obtain rfl:=oj h;refine hKn3 _ _ _ rfl (.nz (.mtE [] ?_));(cbv;repeat (refine⟨an_,?_⟩;cbv))
    obtain⟨v5,rfl⟩:=ez t;cbv;refine brkG h ?_ ?_<;>intro h
    ·cbv;obtain rfl:=oj h;obtain rfl:=hr2 _ rfl;obtain rfl:=hr1 _ rfl;exact hK _ _ aw_
    ·cbv;obtain rfl:=oj h;refine hKn2 _ _ _ rfl (.nz (.mtE [] ?_));(cbv;repeat (refine⟨an_,?_⟩;cbv))
   ·cbv;obtain rfl:=oj h;obtain rfl:=hr2 _ rfl;refine hKn1 _ _ _ rfl (.nz (.mtE [] ?_));(cbv;repeat (refine⟨an_,?_⟩;cbv))
  cbv;obtain rfl:=oj h;exact hK _ _ aw_
end Go.SX.Rg
namespace Go.SX.Rg
open Go Go.SX Go.Proofs
set_option maxRecDepth 100000
noncomputable def registry_Registry_Issue_b (show0:Int)(places0:Int)(titles0:(List (Int×Entry)))(at0:(List (Int×Int)))(place:Int)(first:ByteArray):Option (Int×Int×(List (Int×Entry))×(List (Int×Int))) :=
 Option.bind (
 bif (io.lt place 0) then (
 some true
 ) else (
 bif (io.le places0 place) then (
 some true
 ) else (
 Option.bind (digest_Is_g first) fun v2 =>
 some (io.not v2)
 )
 )
 ) fun v1 =>
 bif v1 then (
 some (0,1,titles0,at0)
 ) else (
 bif (io.le 4000 (io.lenM (WM (Value.int .i64) eEntry titles0))) then (
 some (0,3,titles0,at0)
 ) else (
 Option.bind (some (mlookD at0 place 0)) fun y3 =>
 bif (io.not (io.eq y3 0)) then (
 some (0,16,titles0,at0)
 ) else (
 Option.bind (some (mputG titles0 (io.ar .add .i64 (io.ar .add .i64 (io.ar .mul .i64 (io.ar .add .i64 show0 1) 10000) (io.lenM (WM (Value.int .i64) eEntry titles0))) 1) (Entry.mk (Title.mk (io.ar .add .i64 (io.ar .add .i64 (io.ar .mul .i64 (io.ar .add .i64 show0 1) 10000) (io.lenM (WM (Value.int .i64) eEntry titles0))) 1) show0 place first []) 0))) fun m4 =>
 Option.bind (some (mputG at0 place (io.ar .add .i64 (io.ar .add .i64 (io.ar .mul .i64 (io.ar .add .i64 show0 1) 10000) (io.lenM (WM (Value.int .i64) eEntry titles0))) 1))) fun m5 =>
 some ((io.ar .add .i64 (io.ar .add .i64 (io.ar .mul .i64 (io.ar .add .i64 show0 1) 10000) (io.lenM (WM (Value.int .i64) eEntry titles0))) 1),0,m4,m5)
 )
 )
 )
end Go.SX.Rg
namespace Go.SX.Rg
open Go Go.SX Go.Proofs
set_option maxRecDepth 100000
def c43r0 : List GOp:=[
 gv 6 (.mv (.const (.int .i64 0))),
 gv 7 (.mv (.const (.int .i64 0)))]
def c43r1 : List GOp:=[
 gv 10 (.mv (.tmp 0)),
 gv 11 (.pnil false (.tmp 10)),
 gv 12 (.mv (.tmp 11)),
 gw 13 12 false (.mv (.tmp 1)),
 gw 14 12 false (.bin .lss (.tmp 13) (.const (.int .i64 0))),
 gv 15 (.pick (.tmp 12) (.const (.bool true)) (.tmp 14)),
 gv 16 (.mv (.tmp 15)),
 gw 17 16 false (.mv (.tmp 1)),
 gw 18 16 false (.mv (.tmp 0)),
 gw 19 16 false (.nilck (.tmp 18)),
 gw 20 16 false (.fadd 1 (.tmp 19)),
 gw 21 16 false (.load 1 false (.tmp 20)),
 gw 22 16 false (.bin .geq (.tmp 17) (.tmp 21)),
 gv 23 (.pick (.tmp 16) (.const (.bool true)) (.tmp 22)),
 gv 24 (.mv (.tmp 23)),
 gw 25 24 false (.mv (.tmp 2)),
 gw 26 24 false (.call 57 [(.tmp 25)]),
 gw 27 24 false (.un .not (.tmp 26)),
 gv 28 (.pick (.tmp 24) (.const (.bool true)) (.tmp 27)),
 gv 9 (.mv (.tmp 28))]
def c43r2 : List GOp:=[
 gv 6 (.mv (.const (.int .i64 0))),
 gv 7 (.mv (.const (.int .i64 1)))]
def c43r3 : List GOp:=[
 gv 30 (.mv (.tmp 0)),
 gv 31 (.nilck (.tmp 30)),
 gv 32 (.fadd 2 (.tmp 31)),
 gv 33 (.load 1 false (.tmp 32)),
 gv 34 (.mlen (.tmp 33)),
 gv 35 (.bin .geq (.tmp 34) (.const (.int .i64 4000))),
 gv 29 (.mv (.tmp 35))]
def c43r4 : List GOp:=[
 gv 6 (.mv (.const (.int .i64 0))),
 gv 7 (.mv (.const (.int .i64 3)))]
def c43r5 : List GOp:=[
 gv 37 (.mv (.tmp 0)),
 gv 38 (.nilck (.tmp 37)),
 gv 39 (.fadd 3 (.tmp 38)),
 gv 40 (.load 1 false (.tmp 39)),
 gv 41 (.mv (.tmp 1)),
 gv 42 (.mget (.int .i64) false false oz (.tmp 40) (.tmp 41)),
 gv 43 (.bin .neq (.tmp 42) (.const (.int .i64 0))),
 gv 36 (.mv (.tmp 43))]
def c43r6 : List GOp:=[
 gv 6 (.mv (.const (.int .i64 0))),
 gv 7 (.mv (.const (.int .i64 16)))]
def c43r7 : List GOp:=[
 gv 44 (.mv (.tmp 0)),
 gv 45 (.nilck (.tmp 44)),
 gv 46 (.fadd 0 (.tmp 45)),
 gv 47 (.load 1 false (.tmp 46)),
 gv 48 (.bin .add (.tmp 47) (.const (.int .i64 1))),
 gv 49 (.bin .mul (.tmp 48) (.const (.int .i64 10000))),
 gv 50 (.mv (.tmp 0)),
 gv 51 (.nilck (.tmp 50)),
 gv 52 (.fadd 2 (.tmp 51)),
 gv 53 (.load 1 false (.tmp 52)),
 gv 54 (.mlen (.tmp 53)),
 gv 55 (.bin .add (.tmp 49) (.tmp 54)),
 gv 56 (.bin .add (.tmp 55) (.const (.int .i64 1))),
 gv 8 (.mv (.tmp 56))]
def c43r8 : List GOp:=[
 gv 57 (.mv (.tmp 0)),
 gv 58 (.nilck (.tmp 57)),
 gv 59 (.fadd 2 (.tmp 58)),
 gv 60 (.load 1 false (.tmp 59)),
 gv 61 (.mv (.tmp 8)),
 gv 62 (.mv (.tmp 8)),
 gv 63 (.mv (.tmp 0)),
 gv 64 (.nilck (.tmp 63)),
 gv 65 (.fadd 0 (.tmp 64)),
 gv 66 (.load 1 false (.tmp 65)),
 gv 67 (.mv (.tmp 1)),
 gv 68 (.mv (.tmp 2)),
 gv 69 (.build (.agg #[oz,oz,oz,(.string ⟨#[]⟩),(.slice none 0 0)]) [((0,1),(.tmp 62)),((1,1),(.tmp 66)),((2,1),(.tmp 67)),((3,1),(.tmp 68))]),
 gv 70 (.build (.agg #[oz,oz,oz,(.string ⟨#[]⟩),(.slice none 0 0),oz]) [((0,5),(.tmp 69))])]
def c43r8z : List GOp:=[
 ⟨none,.mset (.int .i64) true (.tmp 60) (.tmp 61) (.tmp 70),none⟩]
def c43r9 : List GOp:=[
 gv 71 (.mv (.tmp 0)),
 gv 72 (.nilck (.tmp 71)),
 gv 73 (.fadd 3 (.tmp 72)),
 gv 74 (.load 1 false (.tmp 73)),
 gv 75 (.mv (.tmp 1)),
 gv 76 (.mv (.tmp 8)),
 ⟨none,.mset (.int .i64) false (.tmp 74) (.tmp 75) (.tmp 76),none⟩]
def c43r10 : List GOp:=[
 gv 77 (.mv (.tmp 8)),
 gv 6 (.mv (.tmp 77)),
 gv 7 (.mv (.const (.int .i64 0)))]
def c43 : EFn:=⟨78,.seq (.reg c43r0) (.seq (.block 0 (.join (.reg c43r1) (.cond (.tmp 9) (.seq (.reg c43r2) (.ret)) (.seq (.reg c43r3) (.cond (.tmp 29) (.seq (.reg c43r4) (.ret)) (.seq (.reg c43r5) (.cond (.tmp 36) (.seq (.reg c43r6) (.ret)) (.skip)))))))) (.seq (.par true true true true 11 c43r7) (.seq (.sfx true true true true c43r8 c43r8z) (.seq (.reg c43r9) (.seq (.reg c43r10) (.ret)))))),[.tmp 6,.tmp 7]⟩
theorem c43_ok : compF Tryz.prog 43=some c43.er:=by kernel_rfl
set_option maxHeartbeats 8000000 in
theorem registry_Registry_Issue_R {P:Program}(hP:P=Tryz.prog)(show0:Int)(places0:Int)(titles0:(List (Int×Entry)))(at0:(List (Int×Int)))(place:Int)(first:ByteArray)(r:Int×Int×(List (Int×Entry))×(List (Int×Int)))(h:registry_Registry_Issue_b show0 places0 titles0 at0 place first=some r):SCall P 43 [.cells [oi show0,oi places0,.hd 1,.hd 2] 74,.mp (.int .i64) true (WM (Value.int .i64) eEntry titles0),.mp (.int .i64) false (WM (Value.int .i64) eIi64 at0)] [.ptr 0 0,oi place,.d (.val (.string first))] (fun sv own'=>sv=.tup [oi r.1,oi r.2.1]∧own'=[.cells [oi show0,oi places0,.hd 1,.hd 2] 74,.mp (.int .i64) true (WM (Value.int .i64) eEntry r.2.2.1),.mp (.int .i64) false (WM (Value.int .i64) eIi64 r.2.2.2)]):=by
 refine .walkF 3 rfl (Nat.le_of_ble_eq_true rfl) (hP▸c43_ok) fun K hK=>?_;unfold registry_Registry_Issue_b at h;cbv;refine .g h (fun (v1:Bool)=>[.ptr 0 0,oi place,.d (.val (.string first))]++rp 6 .top++[ob v1]++rp 68 .top) (fun v1=>[.cells [oi show0,oi places0,.hd 1,.hd 2] 74,.mp (.int .i64) true (WM (Value.int .i64) eEntry titles0),.mp (.int .i64) false (WM (Value.int .i64) eIi64 at0)]) (fun y hm Kn1 hKn1=>?_) fun t h=>?_
 ·have h:=hm;clear hm;cbv;refine brkG h ?_ ?_<;>intro h
  ·cbv;obtain rfl:=oj h;refine hKn1 _ _ _ rfl (.nz (.mtE [0,1,2] ?_));(cbv;repeat (refine⟨an_,?_⟩;cbv))
  ·cbv;refine brkG h ?_ ?_<;>intro h
   ·cbv;obtain rfl:=oj h;refine hKn1 _ _ _ rfl (.nz (.mtE [0,1,2] ?_));(cbv;repeat (refine⟨an_,?_⟩;cbv))
   ·cbv;refine .g h (fun v hv=>digest_Is_R hP _ v hv) aw_ rfl (fun _=>rfl) fun v2 h=>?_;cbv;obtain rfl:=oj h;refine hKn1 _ _ _ rfl (.nz (.mtE [0,1,2] ?_));(cbv;repeat (refine⟨an_,?_⟩;cbv))
 obtain⟨v1,rfl⟩:=ez t;cbv;refine brkG h ?_ ?_<;>intro h
 ·cbv;obtain rfl:=oj h;refine hK _ _ [] [0,1,2] ?_;(cbv;repeat (refine⟨an_,?_⟩;cbv))
 ·cbv;refine brkG h ?_ ?_<;>intro h
  ·cbv;obtain rfl:=oj h;refine hK _ _ [] [0,1,2] ?_;(cbv;repeat (refine⟨an_,?_⟩;cbv))
  ·cbv;refine .gi (e:=eIi64) h (by first | rfl | exact WM_nil' _ _) (fun h=>h) fun y3 h=>?_;cbv;refine brkG h ?_ ?_<;>intro h
   ·cbv;obtain rfl:=oj h;refine hK _ _ [] [0,1,2] ?_;(cbv;repeat (refine⟨an_,?_⟩;cbv))
   ·cbv;refine .gi (e:=eEntry) h (by first | rfl | exact WM_nil' _ _) aw_ fun m4 h=>?_;cbv;refine .gi (e:=eIi64) h (by first | rfl | exact WM_nil' _ _) aw_ fun m5 h=>?_;cbv;obtain rfl:=oj h;refine hK _ _ [] [0,1,2] ?_;(cbv;repeat (refine⟨an_,?_⟩;cbv))
end Go.SX.Rg
namespace Go.SX.Rg
open Go Go.SX Go.Proofs
set_option maxRecDepth 100000
noncomputable def title_identity_g (t_:Title):Option ((A3 ByteArray)) :=
 Option.bind (strconv_Itoa_g t_.Serial) fun v1 =>
 Option.bind (strconv_Itoa_g t_.Show) fun v2 =>
 some (A3.mk v1 v2 t_.First)
end Go.SX.Rg
namespace Go.SX.Rg
open Go Go.SX Go.Proofs
set_option maxRecDepth 100000
noncomputable def title_Extends_l2 (l4:(List Transfer))(b:Title):Int→Option ((Int) ⊕ ((Unit) ⊕ (Bool)))
 | v5 =>
 bif (io.lt v5 (io.len (W eTransfer l4))) then (
 Option.bind (idxG l4 v5) fun x6 =>
 Option.bind (idxG b.Chain v5) fun x7 =>
 Option.bind (
 Option.bind (title_Extends_c1_g x6 x7) fun v9 =>
 some (io.not v9)
 ) fun v8 =>
 bif v8 then (
 some (.inr (.inr false))
 ) else (
 some (.inl (io.ar .add .i64 v5 1))
 )
 ) else (
 some (.inr (.inl ()))
 )
noncomputable def title_Extends_g (a:Title)(b:Title):Option (Bool) :=
 Option.bind (
 Option.bind (title_identity_g a) fun v2 =>
 Option.bind (title_identity_g b) fun v3 =>
 bif (io.not (qA3S v2 v3)) then (
 some true
 ) else (
 some (io.lt (io.len (W eTransfer a.Chain)) (io.len (W eTransfer b.Chain)))
 )
 ) fun v1 =>
 bif v1 then (
 some false
 ) else (
 Option.bind (subG a.Chain 0 (io.len (W eTransfer b.Chain))) fun l4 =>
 bif (io.not (io.eq (io.len (W eTransfer l4)) (io.len (W eTransfer b.Chain)))) then (
 some false
 ) else (
 orR (
 whileG (title_Extends_l2 l4 b) 0
 ) fun _ =>
 some true
 )
 )
end Go.SX.Rg
namespace Go.SX.Rg
open Go Go.SX Go.Proofs
set_option maxRecDepth 100000
def c75r0 : List GOp:=[
 gv 1 (.box 35 (.tmp 0)),
 gv 2 (.alloc 102 (.agg #[(.string ⟨#[]⟩),(.string ⟨#[]⟩),(.string ⟨#[]⟩)]))]
def c75r1 : List GOp:=[
 gv 3 (.fadd 0 (.tmp 1)),
 gv 4 (.load 1 false (.tmp 3)),
 gv 5 (.call 67 [(.tmp 4)]),
 gv 6 (.fadd 1 (.tmp 1)),
 gv 7 (.load 1 false (.tmp 6)),
 gv 8 (.call 67 [(.tmp 7)]),
 gv 9 (.fadd 3 (.tmp 1)),
 gv 10 (.load 1 false (.tmp 9))]
def c75r1z : List GOp:=[
 gv 11 (.build (.agg #[(.string ⟨#[]⟩),(.string ⟨#[]⟩),(.string ⟨#[]⟩)]) [((0,1),(.tmp 5)),((1,1),(.tmp 8)),((2,1),(.tmp 10))]),
 ⟨none,.store 3 (.tmp 2) (.tmp 11),none⟩]
def c75 : EFn:=⟨12,.seq (.reg c75r0) (.seq (.sfx false false false true c75r1 c75r1z) (.ret)),[.cell 2 3 true]⟩
theorem c75_ok : compF Tryz.prog 75=some c75.er:=by kernel_rfl
set_option maxHeartbeats 4000000 in
theorem title_identity_R {P:Program}(hP:P=Tryz.prog)(t_:Title)(r:(A3 ByteArray))(h:title_identity_g t_=some r):Fn1 P 75 [vTitle t_] (vA3S r):=by
 refine .walkE (hP▸c75_ok) fun K hK=>?_;unfold title_identity_g at h;cbv;refine .g h (fun v hv=>strconv_Itoa_R hP _ v hv) aw_ rfl (fun _=>rfl) fun v1 h=>?_;cbv;refine .g h (fun v hv=>strconv_Itoa_R hP _ v hv) aw_ rfl (fun _=>rfl) fun v2 h=>?_;cbv;obtain rfl:=oj h;exact hK _ _ aw_
end Go.SX.Rg
namespace Go.SX.Rg
open Go Go.SX Go.Proofs
set_option maxRecDepth 100000
def c76r0 : List GOp:=[
 gv 6 (.mv (.const (.bool false)))]
def c76r1 : List GOp:=[
 gv 10 (.mv (.tmp 0)),
 gv 11 (.len false (.tmp 10)),
 gv 12 (.mv (.tmp 1)),
 gv 13 (.len false (.tmp 12)),
 gv 14 (.bin .neq (.tmp 11) (.tmp 13))]
def c76r2 : List GOp:=[
 gv 6 (.mv (.const (.bool false)))]
def c76r3 : List GOp:=[
 gv 15 (.mv (.tmp 0)),
 gv 16 (.len false (.tmp 15)),
 gv 17 (.mv (.const (.int .i64 0)))]
def c76r4 : List GOp:=[
 gv 18 (.bin .lss (.tmp 17) (.tmp 16))]
def c76r5 : List GOp:=[
 gv 19 (.mv (.tmp 17)),
 gv 20 (.idxA 2 (.tmp 15) (.tmp 17)),
 gv 21 (.load 2 true (.tmp 20)),
 gv 8 (.alloc 46 (.agg #[(.string ⟨#[]⟩),(.slice none 0 0)])),
 gv 7 (.mv (.tmp 19)),
 ⟨none,.store 2 (.tmp 8) (.tmp 21),none⟩]
def c76r6 : List GOp:=[
 gv 22 (.mv (.tmp 1)),
 gv 23 (.mv (.tmp 7)),
 gv 24 (.idxA 2 (.tmp 22) (.tmp 23)),
 gv 25 (.load 2 true (.tmp 24)),
 gv 9 (.alloc 46 (.agg #[(.string ⟨#[]⟩),(.slice none 0 0)])),
 ⟨none,.store 2 (.tmp 9) (.tmp 25),none⟩]
def c76r7 : List GOp:=[
 gv 26 (.mv (.tmp 2)),
 gv 27 (.load 2 true (.tmp 8)),
 gv 28 (.load 2 true (.tmp 9)),
 gv 29 (.callv (.tmp 26) [(.tmp 27),(.tmp 28)]),
 gv 30 (.un .not (.tmp 29))]
def c76r8 : List GOp:=[
 gv 6 (.mv (.const (.bool false)))]
def c76r9 : List GOp:=[
 gv 31 (.bin .add (.tmp 17) (.const (.int .i64 1))),
 gv 17 (.mv (.tmp 31))]
def c76l10 : DE:=.seq (.reg c76r4) (.seq (.cond (.tmp 18) (.skip) (.exit 0)) (.seq (.block 1 (.seq (.reg c76r5) (.seq (.reg c76r6) (.join (.reg c76r7) (.cond (.tmp 30) (.seq (.reg c76r8) (.ret)) (.skip)))))) (.reg c76r9)))
def c76r11 : List GOp:=[
 gv 6 (.mv (.const (.bool true)))]
def c76 : EFn:=⟨32,.seq (.reg c76r0) (.seq (.seq (.reg c76r1) (.cond (.tmp 14) (.seq (.reg c76r2) (.ret)) (.skip))) (.join (.seq (.reg c76r3) (.block 0 (.loop c76l10))) (.seq (.reg c76r11) (.ret)))),[.tmp 6]⟩
theorem c76_ok : compF Tryz.prog 76=some c76.er:=by kernel_rfl
def c42r0 : List GOp:=[
 gv 2 (.box 35 (.tmp 0)),
 gv 3 (.box 35 (.tmp 1)),
 gv 4 (.mv (.const (.bool false)))]
def c42r1 : List GOp:=[
 gv 5 (.load 5 true (.tmp 2)),
 gv 6 (.call 75 [(.tmp 5)]),
 gv 7 (.load 5 true (.tmp 3)),
 gv 8 (.call 75 [(.tmp 7)]),
 gv 9 (.beq true [.str,.str,.str] (.tmp 6) (.tmp 8)),
 gv 10 (.mv (.tmp 9)),
 gw 11 10 false (.fadd 4 (.tmp 2)),
 gw 12 10 false (.load 1 false (.tmp 11)),
 gw 13 10 false (.len false (.tmp 12)),
 gw 14 10 false (.fadd 4 (.tmp 3)),
 gw 15 10 false (.load 1 false (.tmp 14)),
 gw 16 10 false (.len false (.tmp 15)),
 gw 17 10 false (.bin .lss (.tmp 13) (.tmp 16)),
 gv 18 (.pick (.tmp 10) (.const (.bool true)) (.tmp 17))]
def c42r2 : List GOp:=[
 gv 4 (.mv (.const (.bool false)))]
def c42r3 : List GOp:=[
 gv 19 (.fadd 4 (.tmp 2)),
 gv 20 (.load 1 false (.tmp 19)),
 gv 21 (.fadd 4 (.tmp 3)),
 gv 22 (.load 1 false (.tmp 21)),
 gv 23 (.len false (.tmp 22)),
 gv 24 (.slc 2 (.tmp 20) none (some (.tmp 23))),
 gv 25 (.fadd 4 (.tmp 3)),
 gv 26 (.load 1 false (.tmp 25))]
def c42r3z : List GOp:=[
 gv 27 (.call 76 [(.tmp 24),(.tmp 26),(.func 77)]),
 gv 4 (.mv (.tmp 27))]
def c42 : EFn:=⟨28,.seq (.reg c42r0) (.seq (.join (.par false false false true 12 c42r1) (.cond (.tmp 18) (.seq (.reg c42r2) (.ret)) (.skip))) (.seq (.sfx false false false true c42r3 c42r3z) (.ret))),[.tmp 4]⟩
theorem c42_ok : compF Tryz.prog 42=some c42.er:=by kernel_rfl
set_option maxHeartbeats 4000000 in
theorem title_Extends_R {P:Program}(hP:P=Tryz.prog)(a:Title)(b:Title)(r:Bool)(h:title_Extends_g a b=some r):Fn1 P 42 [vTitle a,vTitle b] (vB r):=by
 refine .walkE (hP▸c42_ok) fun K hK=>?_;unfold title_Extends_g at h;cbv;refine .g h (fun (v1:Bool)=>[.top,.top,.ptr 0 0,.ptr 1 0]++rp 14 .top++[ob v1]++rp 9 .top) (fun v1=>[.cells [oi a.Serial,oi a.Show,oi a.Place,.d (.val (.string a.First)),.d (.sl (W eTransfer a.Chain))] 35,.cells [oi b.Serial,oi b.Show,oi b.Place,.d (.val (.string b.First)),.d (.sl (W eTransfer b.Chain))] 35]) (fun y hm Kn1 hKn1=>?_) fun t h=>?_
 ·have h:=hm;clear hm;cbv;refine .g h (fun v hv=>title_identity_R hP _ v hv) aw_ rfl (fun _=>rfl) fun v2 h=>?_;cbv;refine .g h (fun v hv=>title_identity_R hP _ v hv) aw_ rfl (fun _=>rfl) fun v3 h=>?_;cbv;refine brkG h ?_ ?_<;>intro h
  ·cbv;obtain rfl:=oj h;refine hKn1 _ _ _ rfl (.nz (.mtE [0,1] ?_));(cbv;repeat (refine⟨an_,?_⟩;cbv))
  ·cbv;obtain rfl:=oj h;refine hKn1 _ _ _ rfl (.nz (.mtE [0,1] ?_));(cbv;repeat (refine⟨an_,?_⟩;cbv))
 obtain⟨v1,rfl⟩:=ez t;cbv;refine brkG h ?_ ?_<;>intro h
 ·cbv;obtain rfl:=oj h;exact hK _ _ aw_
 ·cbv;refine .g h (fun _=>rfl) fun l4 h=>?_;cbv;refine .inl (hP▸c76_ok) ?_;cbv;refine brkG h ?_ ?_<;>intro h
  ·cbv;obtain rfl:=oj h;exact hK _ _ aw_
  ·cbv;refine .ga h (fun (_:Unit)=>rp 32 .top) (fun _=>[.cells [oi a.Serial,oi a.Show,oi a.Place,.d (.val (.string a.First)),.d (.sl (W eTransfer a.Chain))] 35,.cells [oi b.Serial,oi b.Show,oi b.Place,.d (.val (.string b.First)),.d (.sl (W eTransfer b.Chain))] 35]) (fun y hm hr1 Kn1 hKn1=>?_) fun t h=>?_
   ·have h:=hm;clear hm;cbv;refine .g h (fun (v5:Int)=>[.top,.d (.sl (W eTransfer b.Chain)),.clo (.func 77) [] []]++rp 12 .top++[.d (.sl (W eTransfer l4)),oi (io.len (W eTransfer l4)),oi v5]++rp 14 .top) (fun v5=>[.cells [oi a.Serial,oi a.Show,oi a.Place,.d (.val (.string a.First)),.d (.sl (W eTransfer a.Chain))] 35,.cells [oi b.Serial,oi b.Show,oi b.Place,.d (.val (.string b.First)),.d (.sl (W eTransfer b.Chain))] 35]) (.nz (.mtE [0,1] ?_)) fun s x h hr2 Kn2 hKn2=>?_
    ·(cbv;repeat (refine⟨an_,?_⟩;cbv))
    unfold title_Extends_l2 at h;obtain⟨v5,rfl⟩:=ez s;cbv;refine brkG h ?_ ?_<;>intro h
    ·cbv;refine .g h (fun _=>rfl) fun x6 h=>?_;cbv;refine .g h (fun _=>rfl) fun x7 h=>?_;cbv;refine .g h (fun (v8:Bool)=>[.top,.d (.sl (W eTransfer b.Chain)),.clo (.func 77) [] []]++rp 12 .top++[.d (.sl (W eTransfer l4)),oi (io.len (W eTransfer l4)),oi v5]++rp 12 .top++[ob v8,.top]) (fun v8=>[.cells [oi a.Serial,oi a.Show,oi a.Place,.d (.val (.string a.First)),.d (.sl (W eTransfer a.Chain))] 35,.cells [oi b.Serial,oi b.Show,oi b.Place,.d (.val (.string b.First)),.d (.sl (W eTransfer b.Chain))] 35]) (fun y hm Kn3 hKn3=>?_) fun t h=>?_
     ·have h:=hm;clear hm;cbv;refine .g h (fun v hv=>title_Extends_c1_R hP _ _ v hv) aw_ rfl (fun _=>rfl) fun v9 h=>?_;cbv;obtain rfl:=oj h;refine hKn3 _ _ _ rfl (.nz (.mtE [0,1] ?_));(cbv;repeat (refine⟨an_,?_⟩;cbv))
     obtain⟨v8,rfl⟩:=ez t;cbv;refine brkG h ?_ ?_<;>intro h
     ·cbv;obtain rfl:=oj h;obtain rfl:=hr2 _ rfl;obtain rfl:=hr1 _ rfl;exact hK _ _ aw_
     ·cbv;obtain rfl:=oj h;refine hKn2 _ _ _ rfl (.nz (.mtE [0,1] ?_));(cbv;repeat (refine⟨an_,?_⟩;cbv))
    ·cbv;obtain rfl:=oj h;obtain rfl:=hr2 _ rfl;refine hKn1 _ _ _ rfl (.nz (.mtE [0,1] ?_));(cbv;repeat (refine⟨an_,?_⟩;cbv))
   cbv;obtain rfl:=oj h;exact hK _ _ aw_
end Go.SX.Rg
