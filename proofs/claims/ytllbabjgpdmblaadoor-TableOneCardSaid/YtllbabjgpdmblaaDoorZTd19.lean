/- Parts of the proof. -/
import Derived.Test.YtllbabjgpdmblaaDoorZTdT
import Derived.Test.YtllbabjgpdmblaaDoorZTdBuilder
import Derived.Test.YtllbabjgpdmblaaDoorZTdSwalkV
set_option linter.unusedSimpArgs false
set_option linter.unusedVariables false
set_option linter.unusedSectionVars false
namespace Go.SX.Td
open Go Go.SX Go.Proofs
set_option maxRecDepth 100000
def c42r0 : List GOp:=[
 gv 5 (.box 36 (.tmp 2))]
def c42r1 : List GOp:=[
 gv 6 (.mv (.tmp 0)),
 gv 7 (.nilck (.tmp 6)),
 gv 8 (.fadd 19 (.tmp 7)),
 gv 9 (.load 1 false (.tmp 8)),
 gv 10 (.bin .lss (.tmp 9) (.const (.int .i64 0)))]
def c42r2 : List GOp:=[
 gv 11 (.mv (.tmp 0)),
 gv 12 (.mv (.tmp 1)),
 gv 13 (.nilck (.tmp 11)),
 gv 14 (.fadd 19 (.tmp 13)),
 ⟨none,.store 1 (.tmp 14) (.tmp 12),none⟩]
def c42r3 : List GOp:=[
 gv 15 (.fadd 3 (.tmp 5)),
 gv 16 (.load 1 false (.tmp 15)),
 gv 17 (.bin .gtr (.tmp 16) (.const (.int .i64 0))),
 gv 18 (.mv (.tmp 17)),
 gw 19 18 true (.mv (.tmp 0)),
 gw 20 18 true (.nilck (.tmp 19)),
 gw 21 18 true (.fadd 0 (.tmp 20)),
 gw 22 18 true (.fadd 3 (.tmp 21)),
 gw 23 18 true (.load 1 false (.tmp 22)),
 gw 24 18 true (.bin .eql (.tmp 23) (.const (.int .i64 0))),
 gw 25 18 true (.mv (.tmp 24)),
 gw 26 25 false (.fadd 3 (.tmp 5)),
 gw 27 25 false (.load 1 false (.tmp 26)),
 gw 28 25 false (.mv (.tmp 0)),
 gw 29 25 false (.nilck (.tmp 28)),
 gw 30 25 false (.fadd 0 (.tmp 29)),
 gw 31 25 false (.fadd 3 (.tmp 30)),
 gw 32 25 false (.load 1 false (.tmp 31)),
 gw 33 25 false (.bin .lss (.tmp 27) (.tmp 32)),
 gw 34 18 true (.pick (.tmp 25) (.const (.bool true)) (.tmp 33)),
 gv 35 (.pick (.tmp 18) (.tmp 34) (.const (.bool false)))]
def c42r4 : List GOp:=[
 gv 36 (.mv (.tmp 0)),
 gv 37 (.fadd 3 (.tmp 5)),
 gv 38 (.load 1 false (.tmp 37)),
 gv 39 (.nilck (.tmp 36)),
 gv 40 (.fadd 0 (.tmp 39)),
 gv 41 (.fadd 3 (.tmp 40)),
 ⟨none,.store 1 (.tmp 41) (.tmp 38),none⟩]
def c42 : EFn:=⟨42,.seq (.reg c42r0) (.join (.seq (.reg c42r1) (.cond (.tmp 10) (.reg c42r2) (.skip))) (.join (.par true true true 18 c42r3) (.cond (.tmp 35) (.reg c42r4) (.skip)))),[]⟩
theorem c42_ok : compF Tryd.prog 42=some c42.er:=by kernel_rfl
def c43r0 : List GOp:=[
 gv 5 (.box 36 (.tmp 2))]
def c43r1 : List GOp:=[
 gv 6 (.mv (.tmp 0)),
 gv 7 (.nilck (.tmp 6)),
 gv 8 (.fadd 20 (.tmp 7)),
 gv 9 (.load 1 false (.tmp 8)),
 gv 10 (.bin .lss (.tmp 9) (.const (.int .i64 0)))]
def c43r2 : List GOp:=[
 gv 11 (.mv (.tmp 0)),
 gv 12 (.mv (.tmp 1)),
 gv 13 (.nilck (.tmp 11)),
 gv 14 (.fadd 20 (.tmp 13)),
 ⟨none,.store 1 (.tmp 14) (.tmp 12),none⟩]
def c43 : EFn:=⟨15,.seq (.reg c43r0) (.seq (.reg c43r1) (.cond (.tmp 10) (.reg c43r2) (.skip))),[]⟩
theorem c43_ok : compF Tryd.prog 43=some c43.er:=by kernel_rfl
def c44r0 : List GOp:=[
 gv 5 (.box 36 (.tmp 2))]
def c44r1 : List GOp:=[
 gv 6 (.mv (.tmp 0)),
 gv 7 (.nilck (.tmp 6)),
 gv 8 (.fadd 16 (.tmp 7)),
 gv 9 (.load 1 false (.tmp 8)),
 gv 10 (.un .not (.tmp 9))]
def c44r2 : List GOp:=[
 gv 11 (.mv (.tmp 0)),
 gv 12 (.mv (.tmp 0)),
 gv 13 (.mv (.tmp 0)),
 gv 14 (.mv (.tmp 0)),
 gv 15 (.fadd 3 (.tmp 5)),
 gv 16 (.load 1 false (.tmp 15)),
 gv 17 (.fadd 4 (.tmp 5)),
 gv 18 (.load 2 true (.tmp 17)),
 gv 19 (.fadd 6 (.tmp 5)),
 gv 20 (.load 2 true (.tmp 19)),
 gv 21 (.nilck (.tmp 11)),
 gv 22 (.fadd 16 (.tmp 21)),
 ⟨none,.store 1 (.tmp 22) (.const (.bool true)),none⟩,
 gv 23 (.nilck (.tmp 12)),
 gv 24 (.fadd 0 (.tmp 23)),
 gv 25 (.fadd 4 (.tmp 24)),
 ⟨none,.store 1 (.tmp 25) (.tmp 16),none⟩,
 gv 26 (.nilck (.tmp 13)),
 gv 27 (.fadd 0 (.tmp 26)),
 gv 28 (.fadd 5 (.tmp 27)),
 ⟨none,.store 2 (.tmp 28) (.tmp 18),none⟩,
 gv 29 (.nilck (.tmp 14)),
 gv 30 (.fadd 0 (.tmp 29)),
 gv 31 (.fadd 7 (.tmp 30)),
 ⟨none,.store 2 (.tmp 31) (.tmp 20),none⟩]
def c44 : EFn:=⟨32,.seq (.reg c44r0) (.seq (.reg c44r1) (.cond (.tmp 10) (.hys true true 21 c44r2) (.skip))),[]⟩
theorem c44_ok : compF Tryd.prog 44=some c44.er:=by kernel_rfl
def c45r0 : List GOp:=[
 gv 5 (.box 36 (.tmp 2))]
def c45r1 : List GOp:=[
 gv 6 (.mv (.tmp 0)),
 gv 7 (.nilck (.tmp 6)),
 gv 8 (.fadd 17 (.tmp 7)),
 gv 9 (.load 1 false (.tmp 8)),
 gv 10 (.un .not (.tmp 9))]
def c45r2 : List GOp:=[
 gv 11 (.mv (.tmp 0)),
 gv 12 (.mv (.tmp 0)),
 gv 13 (.mv (.tmp 0)),
 gv 14 (.fadd 4 (.tmp 5)),
 gv 15 (.load 2 true (.tmp 14)),
 gv 16 (.fadd 6 (.tmp 5)),
 gv 17 (.load 2 true (.tmp 16)),
 gv 18 (.nilck (.tmp 11)),
 gv 19 (.fadd 17 (.tmp 18)),
 ⟨none,.store 1 (.tmp 19) (.const (.bool true)),none⟩,
 gv 20 (.nilck (.tmp 12)),
 gv 21 (.fadd 0 (.tmp 20)),
 gv 22 (.fadd 9 (.tmp 21)),
 ⟨none,.store 2 (.tmp 22) (.tmp 15),none⟩,
 gv 23 (.nilck (.tmp 13)),
 gv 24 (.fadd 0 (.tmp 23)),
 gv 25 (.fadd 11 (.tmp 24)),
 ⟨none,.store 2 (.tmp 25) (.tmp 17),none⟩]
def c45 : EFn:=⟨26,.seq (.reg c45r0) (.seq (.reg c45r1) (.cond (.tmp 10) (.hys true true 14 c45r2) (.skip))),[]⟩
theorem c45_ok : compF Tryd.prog 45=some c45.er:=by kernel_rfl
def c46r0 : List GOp:=[
 gv 5 (.box 36 (.tmp 2))]
def c46r1 : List GOp:=[
 gv 6 (.mv (.tmp 0)),
 gv 7 (.nilck (.tmp 6)),
 gv 8 (.fadd 18 (.tmp 7)),
 gv 9 (.load 1 false (.tmp 8)),
 gv 10 (.un .not (.tmp 9))]
def c46r2 : List GOp:=[
 gv 11 (.mv (.tmp 0)),
 gv 12 (.mv (.tmp 0)),
 gv 13 (.fadd 4 (.tmp 5)),
 gv 14 (.load 2 true (.tmp 13)),
 gv 15 (.nilck (.tmp 11)),
 gv 16 (.fadd 18 (.tmp 15)),
 ⟨none,.store 1 (.tmp 16) (.const (.bool true)),none⟩,
 gv 17 (.nilck (.tmp 12)),
 gv 18 (.fadd 0 (.tmp 17)),
 gv 19 (.fadd 13 (.tmp 18)),
 ⟨none,.store 2 (.tmp 19) (.tmp 14),none⟩]
def c46 : EFn:=⟨20,.seq (.reg c46r0) (.seq (.reg c46r1) (.cond (.tmp 10) (.hys true true 7 c46r2) (.skip))),[]⟩
theorem c46_ok : compF Tryd.prog 46=some c46.er:=by kernel_rfl
def c47r0 : List GOp:=[
 gv 4 (.box 36 (.tmp 1))]
def c47r1 : List GOp:=[
 gv 5 (.load 1 false (.tmp 2)),
 gv 6 (.nilck (.tmp 5)),
 gv 7 (.fadd 0 (.tmp 6)),
 gv 8 (.fadd 1 (.tmp 7)),
 ⟨none,.store 1 (.tmp 8) (.const (.bool true)),none⟩]
def c47 : EFn:=⟨9,.seq (.reg c47r0) (.reg c47r1),[]⟩
theorem c47_ok : compF Tryd.prog 47=some c47.er:=by kernel_rfl
def c48r0 : List GOp:=[
 gv 4 (.box 36 (.tmp 1))]
def c48r1 : List GOp:=[
 gv 5 (.load 1 false (.tmp 2)),
 gv 6 (.nilck (.tmp 5)),
 gv 7 (.fadd 0 (.tmp 6)),
 gv 8 (.fadd 2 (.tmp 7)),
 ⟨none,.store 1 (.tmp 8) (.const (.bool true)),none⟩]
def c48 : EFn:=⟨9,.seq (.reg c48r0) (.reg c48r1),[]⟩
theorem c48_ok : compF Tryd.prog 48=some c48.er:=by kernel_rfl
def c19r0 : List GOp:=[
 gv 2 (.box 24 (.tmp 0)),
 gv 3 (.box 38 (.tmp 1)),
 gv 4 (.alloc 45 (.agg #[(.bool false),(.bool false),(.bool false),oz,oz,oz,oz,oz,oz,oz,oz,oz,oz,oz,oz,oz]))]
def c19r1 : List GOp:=[
 gv 11 (.build (.agg #[oz,oz]) [((1,1),(.const (.int .i64 1)))]),
 gv 5 (.alloc 34 (.agg #[oz,oz])),
 ⟨none,.store 2 (.tmp 5) (.tmp 11),none⟩]
def c19r2 : List GOp:=[
 gv 12 (.load 2 true (.tmp 5)),
 gv 13 (.load 2 true (.tmp 5)),
 gv 14 (.load 2 true (.tmp 5)),
 gv 15 (.load 2 true (.tmp 5)),
 gv 16 (.load 2 true (.tmp 5)),
 gv 17 (.build (.agg #[(.bool false),(.bool false),(.bool false),oz,oz,oz,oz,oz,oz,oz,oz,oz,oz,oz,oz,oz]) [((5,2),(.tmp 12)),((7,2),(.tmp 13)),((9,2),(.tmp 14)),((11,2),(.tmp 15)),((13,2),(.tmp 16))]),
 gv 18 (.build (.agg #[(.bool false),(.bool false),(.bool false),oz,oz,oz,oz,oz,oz,oz,oz,oz,oz,oz,oz,oz,(.bool false),(.bool false),(.bool false),oz,oz]) [((19,1),(.const (.int .i64 (-1)))),((20,1),(.const (.int .i64 (-1)))),((0,16),(.tmp 17))]),
 gv 19 (.box 91 (.tmp 18)),
 gv 6 (.alloc 89 (.pointer none)),
 ⟨none,.store 1 (.tmp 6) (.tmp 19),none⟩]
def c19r3 : List GOp:=[
 gv 20 (.mkf (.int .i64)),
 gv 21 (.load 1 false (.tmp 6)),
 gv 22 (.mkfn (.func 42) [(.tmp 21)] []),
 ⟨none,.mset (.int .i64) false (.tmp 20) (.const (.int .i64 1)) (.tmp 22),none⟩,
 gv 23 (.load 1 false (.tmp 6)),
 gv 24 (.mkfn (.func 43) [(.tmp 23)] []),
 ⟨none,.mset (.int .i64) false (.tmp 20) (.const (.int .i64 2)) (.tmp 24),none⟩,
 gv 25 (.load 1 false (.tmp 6)),
 gv 26 (.mkfn (.func 44) [(.tmp 25)] []),
 ⟨none,.mset (.int .i64) false (.tmp 20) (.const (.int .i64 3)) (.tmp 26),none⟩,
 gv 27 (.load 1 false (.tmp 6)),
 gv 28 (.mkfn (.func 45) [(.tmp 27)] []),
 ⟨none,.mset (.int .i64) false (.tmp 20) (.const (.int .i64 4)) (.tmp 28),none⟩,
 gv 29 (.load 1 false (.tmp 6)),
 gv 30 (.mkfn (.func 46) [(.tmp 29)] []),
 ⟨none,.mset (.int .i64) false (.tmp 20) (.const (.int .i64 5)) (.tmp 30),none⟩,
 gv 31 (.mkfn (.func 47) [] [(.tmp 6)]),
 ⟨none,.mset (.int .i64) false (.tmp 20) (.const (.int .i64 6)) (.tmp 31),none⟩,
 gv 32 (.mkfn (.func 48) [] [(.tmp 6)]),
 ⟨none,.mset (.int .i64) false (.tmp 20) (.const (.int .i64 7)) (.tmp 32),none⟩,
 gv 33 (.mv (.tmp 20)),
 gv 7 (.mv (.tmp 33))]
def c19r4 : List GOp:=[
 gv 34 (.fadd 0 (.tmp 2)),
 gv 35 (.load 1 false (.tmp 34)),
 gv 36 (.len false (.tmp 35)),
 gv 37 (.mv (.const (.int .i64 0)))]
def c19r5 : List GOp:=[
 gv 38 (.bin .lss (.tmp 37) (.tmp 36))]
def c19r6 : List GOp:=[
 gv 39 (.mv (.tmp 37)),
 gv 40 (.idxA 8 (.tmp 35) (.tmp 37)),
 gv 41 (.load 8 true (.tmp 40)),
 gv 9 (.alloc 36 (.agg #[oz,(.string ⟨#[]⟩),(.slice none 0 0),oz,oz,oz,oz,oz])),
 gv 8 (.mv (.tmp 39)),
 ⟨none,.store 8 (.tmp 9) (.tmp 41),none⟩]
def c19r7 : List GOp:=[
 gv 42 (.mv (.tmp 7)),
 gv 43 (.fadd 0 (.tmp 9)),
 gv 44 (.load 1 false (.tmp 43)),
 gv 45 (.mget (.int .i64) false false .nilFunc (.tmp 42) (.tmp 44)),
 gv 10 (.mv (.tmp 45))]
def c19r8 : List GOp:=[
 gv 46 (.mv (.tmp 10)),
 gv 47 (.fnil true (.tmp 46) (.const .nilFunc)),
 gv 48 (.mv (.tmp 47)),
 gw 49 48 true (.load 8 true (.tmp 9)),
 gw 50 48 true (.load 10 true (.tmp 3)),
 gw 51 48 true (.call 49 [(.tmp 49),(.tmp 50)]),
 gv 52 (.pick (.tmp 48) (.tmp 51) (.const (.bool false)))]
def c19r9 : List GOp:=[
 gv 53 (.mv (.tmp 10)),
 gv 54 (.mv (.tmp 8)),
 gv 55 (.load 8 true (.tmp 9)),
 gv 56 (.callv (.tmp 53) [(.tmp 54),(.tmp 55)])]
def c19r10 : List GOp:=[
 gv 57 (.bin .add (.tmp 37) (.const (.int .i64 1))),
 gv 37 (.mv (.tmp 57))]
def c19l11 : DE:=.seq (.reg c19r5) (.seq (.cond (.tmp 38) (.skip) (.exit 0)) (.join (.block 1 (.seq (.reg c19r6) (.seq (.reg c19r7) (.join (.reg c19r8) (.cond (.tmp 52) (.reg c19r9) (.skip)))))) (.reg c19r10)))
def c19r12 : List GOp:=[
 gv 58 (.load 1 false (.tmp 6)),
 gv 59 (.load 1 false (.tmp 6)),
 gv 60 (.nilck (.tmp 59)),
 gv 61 (.fadd 19 (.tmp 60)),
 gv 62 (.load 1 false (.tmp 61)),
 gv 63 (.bin .geq (.tmp 62) (.const (.int .i64 0))),
 gv 64 (.mv (.tmp 63)),
 gw 65 64 true (.load 1 false (.tmp 6)),
 gw 66 64 true (.nilck (.tmp 65)),
 gw 67 64 true (.fadd 16 (.tmp 66)),
 gw 68 64 true (.load 1 false (.tmp 67)),
 gv 69 (.pick (.tmp 64) (.tmp 68) (.const (.bool false))),
 gv 70 (.mv (.tmp 69)),
 gw 71 70 true (.load 1 false (.tmp 6)),
 gw 72 70 true (.nilck (.tmp 71)),
 gw 73 70 true (.fadd 20 (.tmp 72)),
 gw 74 70 true (.load 1 false (.tmp 73)),
 gw 75 70 true (.bin .lss (.tmp 74) (.const (.int .i64 0))),
 gv 76 (.pick (.tmp 70) (.tmp 75) (.const (.bool false))),
 gv 77 (.nilck (.tmp 58)),
 gv 78 (.fadd 0 (.tmp 77)),
 gv 79 (.fadd 0 (.tmp 78))]
def c19r12z : GOp:=⟨none,.store 1 (.tmp 79) (.tmp 76),none⟩
def c19r13 : List GOp:=[
 gv 80 (.load 1 false (.tmp 6)),
 gv 81 (.load 1 false (.tmp 6)),
 gv 82 (.nilck (.tmp 81)),
 gv 83 (.fadd 19 (.tmp 82)),
 gv 84 (.load 1 false (.tmp 83)),
 gv 85 (.nilck (.tmp 80)),
 gv 86 (.fadd 0 (.tmp 85)),
 gv 87 (.fadd 15 (.tmp 86))]
def c19r13z : GOp:=⟨none,.store 1 (.tmp 87) (.tmp 84),none⟩
def c19r14 : List GOp:=[
 gv 88 (.load 1 false (.tmp 6)),
 gv 89 (.nilck (.tmp 88)),
 gv 90 (.fadd 20 (.tmp 89)),
 gv 91 (.load 1 false (.tmp 90)),
 gv 92 (.bin .geq (.tmp 91) (.const (.int .i64 0)))]
def c19r15 : List GOp:=[
 gv 93 (.load 1 false (.tmp 6)),
 gv 94 (.load 1 false (.tmp 6)),
 gv 95 (.nilck (.tmp 94)),
 gv 96 (.fadd 20 (.tmp 95)),
 gv 97 (.load 1 false (.tmp 96)),
 gv 98 (.nilck (.tmp 93)),
 gv 99 (.fadd 0 (.tmp 98)),
 gv 100 (.fadd 15 (.tmp 99))]
def c19r15z : GOp:=⟨none,.store 1 (.tmp 100) (.tmp 97),none⟩
def c19r16 : List GOp:=[
 gv 101 (.load 1 false (.tmp 6)),
 gv 102 (.nilck (.tmp 101)),
 gv 103 (.fadd 0 (.tmp 102)),
 gv 104 (.load 16 true (.tmp 103)),
 ⟨none,.store 16 (.tmp 4) (.tmp 104),none⟩]
def c19 : EFn:=⟨105,.seq (.reg c19r0) (.seq (.reg c19r1) (.seq (.reg c19r2) (.seq (.reg c19r3) (.join (.seq (.reg c19r4) (.block 0 (.loop c19l11))) (.join (.hyl true true 19 c19r12 c19r12z) (.seq (.hyl true true 5 c19r13 c19r13z) (.join (.seq (.reg c19r14) (.cond (.tmp 92) (.hyl true true 5 c19r15 c19r15z) (.skip))) (.seq (.reg c19r16) (.ret))))))))),[.cell 4 16 true]⟩
theorem c19_ok : compF Tryd.prog 19=some c19.er:=by kernel_rfl
set_option maxHeartbeats 4000000 in
theorem decide_Decide_R {P:Program}(hP:P=Tryd.prog)(p:Policy)(f:(A10 Int))(r:Decision)(h:decide_Decide_g p f=some r):Fn1 P 19 [vPolicy p,vA10Ii64 f] (vDecision r):=by
 refine .walkE (hP▸c19_ok) fun K hK=>?_;unfold decide_Decide_g at h;cbv;refine .g h (fun ((Together1,Single2,Limit3,Price4,Num5,Den6,Num7,Den8,Num9,Den10,Num11,Den12,Num13,Den14,priced15,sold16,back17,allowed18,denied19):Bool×Bool×Int×Int×Int×Int×Int×Int×Int×Int×Int×Int×Int×Int×Bool×Bool×Bool×Int×Int)=>rp 4 .top++[.ptr 0 0,.top,.ptr 1 0]++rp 98 .top) (fun (Together1,Single2,Limit3,Price4,Num5,Den6,Num7,Den8,Num9,Den10,Num11,Den12,Num13,Den14,priced15,sold16,back17,allowed18,denied19)=>[.cells dz 45,.cells [.ptr 2 0] 89,.cells [ob false,ob Together1,ob Single2,oi Limit3,oi Price4,oi Num5,oi Den6,oi Num7,oi Den8,oi Num9,oi Den10,oi Num11,oi Den12,oi Num13,oi Den14,oi 0,ob priced15,ob sold16,ob back17,oi allowed18,oi denied19] 91]) (fun y hm Kn1 hKn1=>?_) fun t h=>?_
 ·have h:=hm;clear hm;cbv;refine .g h (fun ((Together20,Single21,Limit22,Price23,Num24,Den25,Num26,Den27,Num28,Den29,Num30,Den31,Num32,Den33,priced34,sold35,back36,allowed37,denied38,v39):Bool×Bool×Int×Int×Int×Int×Int×Int×Int×Int×Int×Int×Int×Int×Bool×Bool×Bool×Int×Int×Int)=>rp 3 .top++[.ptr 0 0,.ptr 1 0,.top,.ptr 2 0,.hd 4]++rp 27 .top++[.d (.sl (W eRule p.Rules)),oi (io.len (W eRule p.Rules)),oi v39]++rp 67 .top) (fun (Together20,Single21,Limit22,Price23,Num24,Den25,Num26,Den27,Num28,Den29,Num30,Den31,Num32,Den33,priced34,sold35,back36,allowed37,denied38,v39)=>[.cells (ca f) 38,.cells dz 45,.cells [.ptr 3 0] 89,.cells [ob false,ob Together20,ob Single21,oi Limit22,oi Price23,oi Num24,oi Den25,oi Num26,oi Den27,oi Num28,oi Den29,oi Num30,oi Den31,oi Num32,oi Den33,oi 0,ob priced34,ob sold35,ob back36,oi allowed37,oi denied38] 91,.mpf (.int .i64) [((Value.int .i64) 1,.clo (.func 42) [.ptr 3 0] []),((Value.int .i64) 2,.clo (.func 43) [.ptr 3 0] []),((Value.int .i64) 3,.clo (.func 44) [.ptr 3 0] []),((Value.int .i64) 4,.clo (.func 45) [.ptr 3 0] []),((Value.int .i64) 5,.clo (.func 46) [.ptr 3 0] []),((Value.int .i64) 6,.clo (.func 47) [] [.ptr 2 0]),((Value.int .i64) 7,.clo (.func 48) [] [.ptr 2 0])]]) (.nz (.mtE [1,2,5,4,6] ?_)) fun s x h hr2 Kn2 hKn2=>?_
  ·(cbv;repeat (refine⟨an_,?_⟩;cbv))
  unfold decide_Decide_l2 at h;obtain⟨Together20,Single21,Limit22,Price23,Num24,Den25,Num26,Den27,Num28,Den29,Num30,Den31,Num32,Den33,priced34,sold35,back36,allowed37,denied38,v39⟩:=s;cbv;refine brkG h ?_ ?_<;>intro h
  ·cbv;refine .g h (fun ((Together40,Single41,Limit42,Price43,Num44,Den45,Num46,Den47,Num48,Den49,Num50,Den51,Num52,Den53,priced54,sold55,back56,allowed57,denied58):Bool×Bool×Int×Int×Int×Int×Int×Int×Int×Int×Int×Int×Int×Int×Bool×Bool×Bool×Int×Int)=>rp 3 .top++[.ptr 0 0,.ptr 1 0,.top,.ptr 2 0,.hd 4]++rp 27 .top++[.d (.sl (W eRule p.Rules)),oi (io.len (W eRule p.Rules)),oi v39]++rp 67 .top) (fun (Together40,Single41,Limit42,Price43,Num44,Den45,Num46,Den47,Num48,Den49,Num50,Den51,Num52,Den53,priced54,sold55,back56,allowed57,denied58)=>[.cells (ca f) 38,.cells dz 45,.cells [.ptr 3 0] 89,.cells [ob false,ob Together40,ob Single41,oi Limit42,oi Price43,oi Num44,oi Den45,oi Num46,oi Den47,oi Num48,oi Den49,oi Num50,oi Den51,oi Num52,oi Den53,oi 0,ob priced54,ob sold55,ob back56,oi allowed57,oi denied58] 91,.mpf (.int .i64) [((Value.int .i64) 1,.clo (.func 42) [.ptr 3 0] []),((Value.int .i64) 2,.clo (.func 43) [.ptr 3 0] []),((Value.int .i64) 3,.clo (.func 44) [.ptr 3 0] []),((Value.int .i64) 4,.clo (.func 45) [.ptr 3 0] []),((Value.int .i64) 5,.clo (.func 46) [.ptr 3 0] []),((Value.int .i64) 6,.clo (.func 47) [] [.ptr 2 0]),((Value.int .i64) 7,.clo (.func 48) [] [.ptr 2 0])]]) (fun y hm Kn3 hKn3=>?_) fun t h=>?_
   ·have h:=hm;clear hm;cbv;refine .g h (fun _=>rfl) fun x59 h=>?_;cbv;refine brkG h ?_ ?_<;>intro h
    ·cbv;refine .g h (fun (v60:Bool)=>rp 3 .top++[.ptr 0 0,.ptr 1 0,.top,.ptr 2 0,.hd 4,oi v39,.ptr 5 0,.clo (.func 42) [.ptr 3 0] []]++rp 24 .top++[.d (.sl (W eRule p.Rules)),oi (io.len (W eRule p.Rules)),oi v39]++rp 14 .top++[ob v60]++rp 52 .top) (fun v60=>[.cells (ca f) 38,.cells dz 45,.cells [.ptr 3 0] 89,.cells [ob false,ob Together20,ob Single21,oi Limit22,oi Price23,oi Num24,oi Den25,oi Num26,oi Den27,oi Num28,oi Den29,oi Num30,oi Den31,oi Num32,oi Den33,oi 0,ob priced34,ob sold35,ob back36,oi allowed37,oi denied38] 91,.mpf (.int .i64) [((Value.int .i64) 1,.clo (.func 42) [.ptr 3 0] []),((Value.int .i64) 2,.clo (.func 43) [.ptr 3 0] []),((Value.int .i64) 3,.clo (.func 44) [.ptr 3 0] []),((Value.int .i64) 4,.clo (.func 45) [.ptr 3 0] []),((Value.int .i64) 5,.clo (.func 46) [.ptr 3 0] []),((Value.int .i64) 6,.clo (.func 47) [] [.ptr 2 0]),((Value.int .i64) 7,.clo (.func 48) [] [.ptr 2 0])],.cells [oi x59.Kind,.d (.val (.string x59.Name)),.d (.sl (W eA10Range x59.Zones)),oi x59.N,oi x59.R.Num,oi x59.R.Den,oi x59.S.Num,oi x59.S.Den] 36]) (fun y hm Kn4 hKn4=>?_) fun t h=>?_
     ·have h:=hm;clear hm;cbv;refine .g h (fun v hv=>decide_Holds_R hP _ _ v hv) aw_ rfl (fun _=>rfl) fun v61 h=>?_;cbv;obtain rfl:=oj h;refine hKn4 _ _ _ rfl (.nz (.mtE [0,1,2,3,4,5] ?_));(cbv;repeat (refine⟨an_,?_⟩;cbv))
     obtain⟨v60,rfl⟩:=ez t;cbv;refine brkG h ?_ ?_<;>intro h
     ·cbv;refine .inl (hP▸c42_ok) ?_;cbv;refine .g h (fun (allowed62:Int)=>[.ptr 3 0]++rp 4 .top++[.ptr 6 0]++rp 36 .top) (fun allowed62=>[.cells (ca f) 38,.cells dz 45,.cells [.ptr 3 0] 89,.cells [ob false,ob Together20,ob Single21,oi Limit22,oi Price23,oi Num24,oi Den25,oi Num26,oi Den27,oi Num28,oi Den29,oi Num30,oi Den31,oi Num32,oi Den33,oi 0,ob priced34,ob sold35,ob back36,oi allowed62,oi denied38] 91,.mpf (.int .i64) [((Value.int .i64) 1,.clo (.func 42) [.ptr 3 0] []),((Value.int .i64) 2,.clo (.func 43) [.ptr 3 0] []),((Value.int .i64) 3,.clo (.func 44) [.ptr 3 0] []),((Value.int .i64) 4,.clo (.func 45) [.ptr 3 0] []),((Value.int .i64) 5,.clo (.func 46) [.ptr 3 0] []),((Value.int .i64) 6,.clo (.func 47) [] [.ptr 2 0]),((Value.int .i64) 7,.clo (.func 48) [] [.ptr 2 0])],.cells [oi x59.Kind,.d (.val (.string x59.Name)),.d (.sl (W eA10Range x59.Zones)),oi x59.N,oi x59.R.Num,oi x59.R.Den,oi x59.S.Num,oi x59.S.Den] 36,.cells [oi x59.Kind,.d (.val (.string x59.Name)),.d (.sl (W eA10Range x59.Zones)),oi x59.N,oi x59.R.Num,oi x59.R.Den,oi x59.S.Num,oi x59.S.Den] 36]) (fun y hm Kn4 hKn4=>?_) fun t h=>?_
      ·have h:=hm;clear hm;cbv;refine brkG h ?_ ?_<;>intro h
       ·cbv;obtain rfl:=oj h;refine hKn4 _ _ _ rfl (.nz (.mtE [0,1,2,3,4,5,6] ?_));(cbv;repeat (refine⟨an_,?_⟩;cbv))
       ·cbv;obtain rfl:=oj h;refine hKn4 _ _ _ rfl (.nz (.mtE [0,1,2,3,4,5,6] ?_));(cbv;repeat (refine⟨an_,?_⟩;cbv))
      obtain⟨allowed62,rfl⟩:=ez t;cbv;refine .g h (fun (v63:Bool)=>[.ptr 3 0]++rp 4 .top++[.ptr 6 0]++rp 29 .top++[ob v63]++rp 6 .top) (fun v63=>[.cells (ca f) 38,.cells dz 45,.cells [.ptr 3 0] 89,.cells [ob false,ob Together20,ob Single21,oi Limit22,oi Price23,oi Num24,oi Den25,oi Num26,oi Den27,oi Num28,oi Den29,oi Num30,oi Den31,oi Num32,oi Den33,oi 0,ob priced34,ob sold35,ob back36,oi allowed62,oi denied38] 91,.mpf (.int .i64) [((Value.int .i64) 1,.clo (.func 42) [.ptr 3 0] []),((Value.int .i64) 2,.clo (.func 43) [.ptr 3 0] []),((Value.int .i64) 3,.clo (.func 44) [.ptr 3 0] []),((Value.int .i64) 4,.clo (.func 45) [.ptr 3 0] []),((Value.int .i64) 5,.clo (.func 46) [.ptr 3 0] []),((Value.int .i64) 6,.clo (.func 47) [] [.ptr 2 0]),((Value.int .i64) 7,.clo (.func 48) [] [.ptr 2 0])],.cells [oi x59.Kind,.d (.val (.string x59.Name)),.d (.sl (W eA10Range x59.Zones)),oi x59.N,oi x59.R.Num,oi x59.R.Den,oi x59.S.Num,oi x59.S.Den] 36,.cells [oi x59.Kind,.d (.val (.string x59.Name)),.d (.sl (W eA10Range x59.Zones)),oi x59.N,oi x59.R.Num,oi x59.R.Den,oi x59.S.Num,oi x59.S.Den] 36]) (fun y hm Kn4 hKn4=>?_) fun t h=>?_
      ·have h:=hm;clear hm;cbv;refine brkG h ?_ ?_<;>intro h
       ·cbv;refine brkG h ?_ ?_<;>intro h
        ·cbv;obtain rfl:=oj h;refine hKn4 _ _ _ rfl (.nz (.mtE [0,1,2,3,4,5,6] ?_));(cbv;repeat (refine⟨an_,?_⟩;cbv))
        ·cbv;obtain rfl:=oj h;refine hKn4 _ _ _ rfl (.nz (.mtE [0,1,2,3,4,5,6] ?_));(cbv;repeat (refine⟨an_,?_⟩;cbv))
       ·cbv;obtain rfl:=oj h;refine hKn4 _ _ _ rfl (.nz (.mtE [0,1,2,3,4,5,6] ?_));(cbv;repeat (refine⟨an_,?_⟩;cbv))
      obtain⟨v63,rfl⟩:=ez t;cbv;refine brkG h ?_ ?_<;>intro h
      ·cbv;obtain rfl:=oj h;refine hKn3 _ _ _ rfl (.nz (.mtE [0,1,2,3,4] ?_));(cbv;repeat (refine⟨an_,?_⟩;cbv))
      ·cbv;obtain rfl:=oj h;refine hKn3 _ _ _ rfl (.nz (.mtE [0,1,2,3,4] ?_));(cbv;repeat (refine⟨an_,?_⟩;cbv))
     ·cbv;obtain rfl:=oj h;refine hKn3 _ _ _ rfl (.nz (.mtE [0,1,2,3,4] ?_));(cbv;repeat (refine⟨an_,?_⟩;cbv))
    ·cbv;refine brkG h ?_ ?_<;>intro h
     ·cbv;refine .g h (fun (v64:Bool)=>rp 3 .top++[.ptr 0 0,.ptr 1 0,.top,.ptr 2 0,.hd 4,oi v39,.ptr 5 0,.clo (.func 43) [.ptr 3 0] []]++rp 24 .top++[.d (.sl (W eRule p.Rules)),oi (io.len (W eRule p.Rules)),oi v39]++rp 14 .top++[ob v64]++rp 52 .top) (fun v64=>[.cells (ca f) 38,.cells dz 45,.cells [.ptr 3 0] 89,.cells [ob false,ob Together20,ob Single21,oi Limit22,oi Price23,oi Num24,oi Den25,oi Num26,oi Den27,oi Num28,oi Den29,oi Num30,oi Den31,oi Num32,oi Den33,oi 0,ob priced34,ob sold35,ob back36,oi allowed37,oi denied38] 91,.mpf (.int .i64) [((Value.int .i64) 1,.clo (.func 42) [.ptr 3 0] []),((Value.int .i64) 2,.clo (.func 43) [.ptr 3 0] []),((Value.int .i64) 3,.clo (.func 44) [.ptr 3 0] []),((Value.int .i64) 4,.clo (.func 45) [.ptr 3 0] []),((Value.int .i64) 5,.clo (.func 46) [.ptr 3 0] []),((Value.int .i64) 6,.clo (.func 47) [] [.ptr 2 0]),((Value.int .i64) 7,.clo (.func 48) [] [.ptr 2 0])],.cells [oi x59.Kind,.d (.val (.string x59.Name)),.d (.sl (W eA10Range x59.Zones)),oi x59.N,oi x59.R.Num,oi x59.R.Den,oi x59.S.Num,oi x59.S.Den] 36]) (fun y hm Kn4 hKn4=>?_) fun t h=>?_
      ·have h:=hm;clear hm;cbv;refine .g h (fun v hv=>decide_Holds_R hP _ _ v hv) aw_ rfl (fun _=>rfl) fun v65 h=>?_;cbv;obtain rfl:=oj h;refine hKn4 _ _ _ rfl (.nz (.mtE [0,1,2,3,4,5] ?_));(cbv;repeat (refine⟨an_,?_⟩;cbv))
      obtain⟨v64,rfl⟩:=ez t;cbv;refine brkG h ?_ ?_<;>intro h
      ·cbv;refine .inl (hP▸c43_ok) ?_;cbv;refine brkG h ?_ ?_<;>intro h
       ·cbv;obtain rfl:=oj h;refine hKn3 _ _ _ rfl (.nz (.mtE [0,1,2,3,4] ?_));(cbv;repeat (refine⟨an_,?_⟩;cbv))
       ·cbv;obtain rfl:=oj h;refine hKn3 _ _ _ rfl (.nz (.mtE [0,1,2,3,4] ?_));(cbv;repeat (refine⟨an_,?_⟩;cbv))
      ·cbv;obtain rfl:=oj h;refine hKn3 _ _ _ rfl (.nz (.mtE [0,1,2,3,4] ?_));(cbv;repeat (refine⟨an_,?_⟩;cbv))
     ·cbv;refine brkG h ?_ ?_<;>intro h
      ·cbv;refine .g h (fun (v66:Bool)=>rp 3 .top++[.ptr 0 0,.ptr 1 0,.top,.ptr 2 0,.hd 4,oi v39,.ptr 5 0,.clo (.func 44) [.ptr 3 0] []]++rp 24 .top++[.d (.sl (W eRule p.Rules)),oi (io.len (W eRule p.Rules)),oi v39]++rp 14 .top++[ob v66]++rp 52 .top) (fun v66=>[.cells (ca f) 38,.cells dz 45,.cells [.ptr 3 0] 89,.cells [ob false,ob Together20,ob Single21,oi Limit22,oi Price23,oi Num24,oi Den25,oi Num26,oi Den27,oi Num28,oi Den29,oi Num30,oi Den31,oi Num32,oi Den33,oi 0,ob priced34,ob sold35,ob back36,oi allowed37,oi denied38] 91,.mpf (.int .i64) [((Value.int .i64) 1,.clo (.func 42) [.ptr 3 0] []),((Value.int .i64) 2,.clo (.func 43) [.ptr 3 0] []),((Value.int .i64) 3,.clo (.func 44) [.ptr 3 0] []),((Value.int .i64) 4,.clo (.func 45) [.ptr 3 0] []),((Value.int .i64) 5,.clo (.func 46) [.ptr 3 0] []),((Value.int .i64) 6,.clo (.func 47) [] [.ptr 2 0]),((Value.int .i64) 7,.clo (.func 48) [] [.ptr 2 0])],.cells [oi x59.Kind,.d (.val (.string x59.Name)),.d (.sl (W eA10Range x59.Zones)),oi x59.N,oi x59.R.Num,oi x59.R.Den,oi x59.S.Num,oi x59.S.Den] 36]) (fun y hm Kn4 hKn4=>?_) fun t h=>?_
       ·have h:=hm;clear hm;cbv;refine .g h (fun v hv=>decide_Holds_R hP _ _ v hv) aw_ rfl (fun _=>rfl) fun v67 h=>?_;cbv;obtain rfl:=oj h;refine hKn4 _ _ _ rfl (.nz (.mtE [0,1,2,3,4,5] ?_));(cbv;repeat (refine⟨an_,?_⟩;cbv))
       obtain⟨v66,rfl⟩:=ez t;cbv;refine brkG h ?_ ?_<;>intro h
       ·cbv;refine .inl (hP▸c44_ok) ?_;cbv;refine brkG h ?_ ?_<;>intro h
        ·cbv;refine .g [3] ?_;cbv;obtain rfl:=oj h;refine hKn3 _ _ _ rfl (.nz (.mtE [0,1,2,3,4] ?_));(cbv;repeat (refine⟨an_,?_⟩;cbv))
        ·cbv;obtain rfl:=oj h;refine hKn3 _ _ _ rfl (.nz (.mtE [0,1,2,3,4] ?_));(cbv;repeat (refine⟨an_,?_⟩;cbv))
       ·cbv;obtain rfl:=oj h;refine hKn3 _ _ _ rfl (.nz (.mtE [0,1,2,3,4] ?_));(cbv;repeat (refine⟨an_,?_⟩;cbv))
      ·cbv;refine brkG h ?_ ?_<;>intro h
       ·cbv;refine .g h (fun (v68:Bool)=>rp 3 .top++[.ptr 0 0,.ptr 1 0,.top,.ptr 2 0,.hd 4,oi v39,.ptr 5 0,.clo (.func 45) [.ptr 3 0] []]++rp 24 .top++[.d (.sl (W eRule p.Rules)),oi (io.len (W eRule p.Rules)),oi v39]++rp 14 .top++[ob v68]++rp 52 .top) (fun v68=>[.cells (ca f) 38,.cells dz 45,.cells [.ptr 3 0] 89,.cells [ob false,ob Together20,ob Single21,oi Limit22,oi Price23,oi Num24,oi Den25,oi Num26,oi Den27,oi Num28,oi Den29,oi Num30,oi Den31,oi Num32,oi Den33,oi 0,ob priced34,ob sold35,ob back36,oi allowed37,oi denied38] 91,.mpf (.int .i64) [((Value.int .i64) 1,.clo (.func 42) [.ptr 3 0] []),((Value.int .i64) 2,.clo (.func 43) [.ptr 3 0] []),((Value.int .i64) 3,.clo (.func 44) [.ptr 3 0] []),((Value.int .i64) 4,.clo (.func 45) [.ptr 3 0] []),((Value.int .i64) 5,.clo (.func 46) [.ptr 3 0] []),((Value.int .i64) 6,.clo (.func 47) [] [.ptr 2 0]),((Value.int .i64) 7,.clo (.func 48) [] [.ptr 2 0])],.cells [oi x59.Kind,.d (.val (.string x59.Name)),.d (.sl (W eA10Range x59.Zones)),oi x59.N,oi x59.R.Num,oi x59.R.Den,oi x59.S.Num,oi x59.S.Den] 36]) (fun y hm Kn4 hKn4=>?_) fun t h=>?_
        ·have h:=hm;clear hm;cbv;refine .g h (fun v hv=>decide_Holds_R hP _ _ v hv) aw_ rfl (fun _=>rfl) fun v69 h=>?_;cbv;obtain rfl:=oj h;refine hKn4 _ _ _ rfl (.nz (.mtE [0,1,2,3,4,5] ?_));(cbv;repeat (refine⟨an_,?_⟩;cbv))
        obtain⟨v68,rfl⟩:=ez t;cbv;refine brkG h ?_ ?_<;>intro h
        ·cbv;refine .inl (hP▸c45_ok) ?_;cbv;refine brkG h ?_ ?_<;>intro h
         ·cbv;refine .g [3] ?_;cbv;obtain rfl:=oj h;refine hKn3 _ _ _ rfl (.nz (.mtE [0,1,2,3,4] ?_));(cbv;repeat (refine⟨an_,?_⟩;cbv))
         ·cbv;obtain rfl:=oj h;refine hKn3 _ _ _ rfl (.nz (.mtE [0,1,2,3,4] ?_));(cbv;repeat (refine⟨an_,?_⟩;cbv))
        ·cbv;obtain rfl:=oj h;refine hKn3 _ _ _ rfl (.nz (.mtE [0,1,2,3,4] ?_));(cbv;repeat (refine⟨an_,?_⟩;cbv))
       ·cbv;refine brkG h ?_ ?_<;>intro h
        ·cbv;refine .g h (fun (v70:Bool)=>rp 3 .top++[.ptr 0 0,.ptr 1 0,.top,.ptr 2 0,.hd 4,oi v39,.ptr 5 0,.clo (.func 46) [.ptr 3 0] []]++rp 24 .top++[.d (.sl (W eRule p.Rules)),oi (io.len (W eRule p.Rules)),oi v39]++rp 14 .top++[ob v70]++rp 52 .top) (fun v70=>[.cells (ca f) 38,.cells dz 45,.cells [.ptr 3 0] 89,.cells [ob false,ob Together20,ob Single21,oi Limit22,oi Price23,oi Num24,oi Den25,oi Num26,oi Den27,oi Num28,oi Den29,oi Num30,oi Den31,oi Num32,oi Den33,oi 0,ob priced34,ob sold35,ob back36,oi allowed37,oi denied38] 91,.mpf (.int .i64) [((Value.int .i64) 1,.clo (.func 42) [.ptr 3 0] []),((Value.int .i64) 2,.clo (.func 43) [.ptr 3 0] []),((Value.int .i64) 3,.clo (.func 44) [.ptr 3 0] []),((Value.int .i64) 4,.clo (.func 45) [.ptr 3 0] []),((Value.int .i64) 5,.clo (.func 46) [.ptr 3 0] []),((Value.int .i64) 6,.clo (.func 47) [] [.ptr 2 0]),((Value.int .i64) 7,.clo (.func 48) [] [.ptr 2 0])],.cells [oi x59.Kind,.d (.val (.string x59.Name)),.d (.sl (W eA10Range x59.Zones)),oi x59.N,oi x59.R.Num,oi x59.R.Den,oi x59.S.Num,oi x59.S.Den] 36]) (fun y hm Kn4 hKn4=>?_) fun t h=>?_
         ·have h:=hm;clear hm;cbv;refine .g h (fun v hv=>decide_Holds_R hP _ _ v hv) aw_ rfl (fun _=>rfl) fun v71 h=>?_;cbv;obtain rfl:=oj h;refine hKn4 _ _ _ rfl (.nz (.mtE [0,1,2,3,4,5] ?_));(cbv;repeat (refine⟨an_,?_⟩;cbv))
         obtain⟨v70,rfl⟩:=ez t;cbv;refine brkG h ?_ ?_<;>intro h
         ·cbv;refine .inl (hP▸c46_ok) ?_;cbv;refine brkG h ?_ ?_<;>intro h
          ·cbv;refine .g [3] ?_;cbv;obtain rfl:=oj h;refine hKn3 _ _ _ rfl (.nz (.mtE [0,1,2,3,4] ?_));(cbv;repeat (refine⟨an_,?_⟩;cbv))
          ·cbv;obtain rfl:=oj h;refine hKn3 _ _ _ rfl (.nz (.mtE [0,1,2,3,4] ?_));(cbv;repeat (refine⟨an_,?_⟩;cbv))
         ·cbv;obtain rfl:=oj h;refine hKn3 _ _ _ rfl (.nz (.mtE [0,1,2,3,4] ?_));(cbv;repeat (refine⟨an_,?_⟩;cbv))
        ·cbv;refine brkG h ?_ ?_<;>intro h
         ·cbv;refine .g h (fun (v72:Bool)=>rp 3 .top++[.ptr 0 0,.ptr 1 0,.top,.ptr 2 0,.hd 4,oi v39,.ptr 5 0,.clo (.func 47) [] [.ptr 2 0]]++rp 24 .top++[.d (.sl (W eRule p.Rules)),oi (io.len (W eRule p.Rules)),oi v39]++rp 14 .top++[ob v72]++rp 52 .top) (fun v72=>[.cells (ca f) 38,.cells dz 45,.cells [.ptr 3 0] 89,.cells [ob false,ob Together20,ob Single21,oi Limit22,oi Price23,oi Num24,oi Den25,oi Num26,oi Den27,oi Num28,oi Den29,oi Num30,oi Den31,oi Num32,oi Den33,oi 0,ob priced34,ob sold35,ob back36,oi allowed37,oi denied38] 91,.mpf (.int .i64) [((Value.int .i64) 1,.clo (.func 42) [.ptr 3 0] []),((Value.int .i64) 2,.clo (.func 43) [.ptr 3 0] []),((Value.int .i64) 3,.clo (.func 44) [.ptr 3 0] []),((Value.int .i64) 4,.clo (.func 45) [.ptr 3 0] []),((Value.int .i64) 5,.clo (.func 46) [.ptr 3 0] []),((Value.int .i64) 6,.clo (.func 47) [] [.ptr 2 0]),((Value.int .i64) 7,.clo (.func 48) [] [.ptr 2 0])],.cells [oi x59.Kind,.d (.val (.string x59.Name)),.d (.sl (W eA10Range x59.Zones)),oi x59.N,oi x59.R.Num,oi x59.R.Den,oi x59.S.Num,oi x59.S.Den] 36]) (fun y hm Kn4 hKn4=>?_) fun t h=>?_
          ·have h:=hm;clear hm;cbv;refine .g h (fun v hv=>decide_Holds_R hP _ _ v hv) aw_ rfl (fun _=>rfl) fun v73 h=>?_;cbv;obtain rfl:=oj h;refine hKn4 _ _ _ rfl (.nz (.mtE [0,1,2,3,4,5] ?_));(cbv;repeat (refine⟨an_,?_⟩;cbv))
          obtain⟨v72,rfl⟩:=ez t;cbv;refine brkG h ?_ ?_<;>intro h
          ·cbv;refine .inl (hP▸c47_ok) ?_;cbv;obtain rfl:=oj h;refine hKn3 _ _ _ rfl (.nz (.mtE [0,1,2,3,4] ?_));(cbv;repeat (refine⟨an_,?_⟩;cbv))
          ·cbv;obtain rfl:=oj h;refine hKn3 _ _ _ rfl (.nz (.mtE [0,1,2,3,4] ?_));(cbv;repeat (refine⟨an_,?_⟩;cbv))
         ·cbv;refine brkG h ?_ ?_<;>intro h
          ·cbv;refine .g h (fun (v74:Bool)=>rp 3 .top++[.ptr 0 0,.ptr 1 0,.top,.ptr 2 0,.hd 4,oi v39,.ptr 5 0,.clo (.func 48) [] [.ptr 2 0]]++rp 24 .top++[.d (.sl (W eRule p.Rules)),oi (io.len (W eRule p.Rules)),oi v39]++rp 14 .top++[ob v74]++rp 52 .top) (fun v74=>[.cells (ca f) 38,.cells dz 45,.cells [.ptr 3 0] 89,.cells [ob false,ob Together20,ob Single21,oi Limit22,oi Price23,oi Num24,oi Den25,oi Num26,oi Den27,oi Num28,oi Den29,oi Num30,oi Den31,oi Num32,oi Den33,oi 0,ob priced34,ob sold35,ob back36,oi allowed37,oi denied38] 91,.mpf (.int .i64) [((Value.int .i64) 1,.clo (.func 42) [.ptr 3 0] []),((Value.int .i64) 2,.clo (.func 43) [.ptr 3 0] []),((Value.int .i64) 3,.clo (.func 44) [.ptr 3 0] []),((Value.int .i64) 4,.clo (.func 45) [.ptr 3 0] []),((Value.int .i64) 5,.clo (.func 46) [.ptr 3 0] []),((Value.int .i64) 6,.clo (.func 47) [] [.ptr 2 0]),((Value.int .i64) 7,.clo (.func 48) [] [.ptr 2 0])],.cells [oi x59.Kind,.d (.val (.string x59.Name)),.d (.sl (W eA10Range x59.Zones)),oi x59.N,oi x59.R.Num,oi x59.R.Den,oi x59.S.Num,oi x59.S.Den] 36]) (fun y hm Kn4 hKn4=>?_) fun t h=>?_
           ·have h:=hm;clear hm;cbv;refine .g h (fun v hv=>decide_Holds_R hP _ _ v hv) aw_ rfl (fun _=>rfl) fun v75 h=>?_;cbv;obtain rfl:=oj h;refine hKn4 _ _ _ rfl (.nz (.mtE [0,1,2,3,4,5] ?_));(cbv;repeat (refine⟨an_,?_⟩;cbv))
           obtain⟨v74,rfl⟩:=ez t;cbv;refine brkG h ?_ ?_<;>intro h
           ·cbv;refine .inl (hP▸c48_ok) ?_;cbv;obtain rfl:=oj h;refine hKn3 _ _ _ rfl (.nz (.mtE [0,1,2,3,4] ?_));(cbv;repeat (refine⟨an_,?_⟩;cbv))
           ·cbv;obtain rfl:=oj h;refine hKn3 _ _ _ rfl (.nz (.mtE [0,1,2,3,4] ?_));(cbv;repeat (refine⟨an_,?_⟩;cbv))
          ·cbv;refine .g h (fun (_:Unit)=>rp 3 .top++[.ptr 0 0,.ptr 1 0,.top,.ptr 2 0,.hd 4,oi v39,.ptr 5 0,.d (.val .nilFunc)]++rp 24 .top++[.d (.sl (W eRule p.Rules)),oi (io.len (W eRule p.Rules)),oi v39]++rp 14 .top++[ob false]++rp 52 .top) (fun _=>[.cells (ca f) 38,.cells dz 45,.cells [.ptr 3 0] 89,.cells [ob false,ob Together20,ob Single21,oi Limit22,oi Price23,oi Num24,oi Den25,oi Num26,oi Den27,oi Num28,oi Den29,oi Num30,oi Den31,oi Num32,oi Den33,oi 0,ob priced34,ob sold35,ob back36,oi allowed37,oi denied38] 91,.mpf (.int .i64) [((Value.int .i64) 1,.clo (.func 42) [.ptr 3 0] []),((Value.int .i64) 2,.clo (.func 43) [.ptr 3 0] []),((Value.int .i64) 3,.clo (.func 44) [.ptr 3 0] []),((Value.int .i64) 4,.clo (.func 45) [.ptr 3 0] []),((Value.int .i64) 5,.clo (.func 46) [.ptr 3 0] []),((Value.int .i64) 6,.clo (.func 47) [] [.ptr 2 0]),((Value.int .i64) 7,.clo (.func 48) [] [.ptr 2 0])],.cells [oi x59.Kind,.d (.val (.string x59.Name)),.d (.sl (W eA10Range x59.Zones)),oi x59.N,oi x59.R.Num,oi x59.R.Den,oi x59.S.Num,oi x59.S.Den] 36]) (fun y hm Kn4 hKn4=>?_) fun t h=>?_
           ·have h:=hm;clear hm;cbv;obtain rfl:=oj h;refine hKn4 _ _ _ rfl (.nz (.mtE [0,1,2,3,4,5] ?_));(cbv;repeat (refine⟨an_,?_⟩;cbv))
           cbv;obtain rfl:=oj h;refine hKn3 _ _ _ rfl (.nz (.mtE [0,1,2,3,4] ?_));(cbv;repeat (refine⟨an_,?_⟩;cbv))
   obtain⟨Together40,Single41,Limit42,Price43,Num44,Den45,Num46,Den47,Num48,Den49,Num50,Den51,Num52,Den53,priced54,sold55,back56,allowed57,denied58⟩:=t;cbv;obtain rfl:=oj h;refine hKn2 _ _ _ rfl (.nz (.mtE [0,1,2,3,4] ?_));(cbv;repeat (refine⟨an_,?_⟩;cbv))
  ·cbv;obtain rfl:=oj h;obtain rfl:=hr2 _ rfl;refine hKn1 _ _ _ rfl (.nz (.mtE [1,2,3] ?_));(cbv;repeat (refine⟨an_,?_⟩;cbv))
 obtain⟨Together1,Single2,Limit3,Price4,Num5,Den6,Num7,Den8,Num9,Den10,Num11,Den12,Num13,Den14,priced15,sold16,back17,allowed18,denied19⟩:=t;cbv;refine .g h (fun (Allowed76:Bool)=>rp 4 .top++[.ptr 0 0,.top,.ptr 1 0]++rp 98 .top) (fun Allowed76=>[.cells dz 45,.cells [.ptr 2 0] 89,.cells [ob Allowed76,ob Together1,ob Single2,oi Limit3,oi Price4,oi Num5,oi Den6,oi Num7,oi Den8,oi Num9,oi Den10,oi Num11,oi Den12,oi Num13,oi Den14,oi 0,ob priced15,ob sold16,ob back17,oi allowed18,oi denied19] 91]) (fun y hm Kn1 hKn1=>?_) fun t h=>?_
 ·have h:=hm;clear hm;cbv;refine brkG h ?_ ?_<;>intro h
  ·cbv;refine brkG h ?_ ?_<;>intro h
   ·cbv;obtain rfl:=oj h;refine hKn1 _ _ _ rfl (.nz (.mtE [0,1,2] ?_));(cbv;repeat (refine⟨an_,?_⟩;cbv))
   ·cbv;obtain rfl:=oj h;refine hKn1 _ _ _ rfl (.nz (.mtE [0,1,2] ?_));(cbv;repeat (refine⟨an_,?_⟩;cbv))
  ·cbv;obtain rfl:=oj h;refine hKn1 _ _ _ rfl (.nz (.mtE [0,1,2] ?_));(cbv;repeat (refine⟨an_,?_⟩;cbv))
 obtain⟨Allowed76,rfl⟩:=ez t;cbv;refine .g h (fun (By77:Int)=>rp 4 .top++[.ptr 0 0,.top,.ptr 1 0]++rp 98 .top) (fun By77=>[.cells dz 45,.cells [.ptr 2 0] 89,.cells [ob Allowed76,ob Together1,ob Single2,oi Limit3,oi Price4,oi Num5,oi Den6,oi Num7,oi Den8,oi Num9,oi Den10,oi Num11,oi Den12,oi Num13,oi Den14,oi By77,ob priced15,ob sold16,ob back17,oi allowed18,oi denied19] 91]) (fun y hm Kn1 hKn1=>?_) fun t h=>?_
 ·have h:=hm;clear hm;cbv;refine brkG h ?_ ?_<;>intro h
  ·cbv;obtain rfl:=oj h;refine hKn1 _ _ _ rfl (.nz (.mtE [0,1,2] ?_));(cbv;repeat (refine⟨an_,?_⟩;cbv))
  ·cbv;obtain rfl:=oj h;refine hKn1 _ _ _ rfl (.nz (.mtE [0,1,2] ?_));(cbv;repeat (refine⟨an_,?_⟩;cbv))
 obtain⟨By77,rfl⟩:=ez t;cbv;obtain rfl:=oj h;exact hK _ _ aw_
end Go.SX.Td
