/- Parts of the proof. -/
import Derived.Test.YtllbabjgpdmblaaDoorZTdT
import Derived.Test.YtllbabjgpdmblaaDoorZTdCompact
import Derived.Test.YtllbabjgpdmblaaDoorZTdSdiff
set_option linter.unusedSimpArgs false
set_option linter.unusedVariables false
set_option linter.unusedSectionVars false
namespace Go.SX.Td
open Go Go.SX Go.Proofs
set_option maxRecDepth 100000
def c13r0 : List GOp:=[
 gv 0 (.mv (.const (.bool false)))]
def c13r1 : List GOp:=[
 gv 21 (.call 27 []),
 gv 1 (.alloc 45 (.agg #[(.bool false),(.bool false),(.bool false),oz,oz,oz,oz,oz,oz,oz,oz,oz,oz,oz,oz,oz])),
 ⟨none,.store 16 (.tmp 1) (.tmp 21),none⟩]
def c13r2 : List GOp:=[
 gv 22 (.build (.agg #[oz,(.slice none 0 0),(.slice none 0 0),oz]) []),
 gv 23 (.bslice 64 4 1 (.agg #[oz,(.slice none 0 0),(.slice none 0 0),oz]) [(0,(.tmp 22))]),
 gv 24 (.load 16 true (.tmp 1)),
 gv 25 (.bslice 45 16 1 (.agg #[(.bool false),(.bool false),(.bool false),oz,oz,oz,oz,oz,oz,oz,oz,oz,oz,oz,oz,oz]) [(0,(.tmp 24))]),
 gv 26 (.build (.agg #[(.slice none 0 0),(.slice none 0 0)]) [((0,1),(.tmp 23)),((1,1),(.tmp 25))]),
 gv 2 (.alloc 28 (.agg #[(.slice none 0 0),(.slice none 0 0)])),
 ⟨none,.store 2 (.tmp 2) (.tmp 26),none⟩]
def c13r3 : List GOp:=[
 gv 28 (.build (.agg #[(.slice none 0 0)]) []),
 gv 29 (.load 2 true (.tmp 2)),
 gv 30 (.call 16 [(.tmp 28),(.tmp 29)]),
 gv 27 (.mv (.tmp 30)),
 gv 31 (.ext (.tmp 27) 0),
 gv 32 (.ext (.tmp 27) 1),
 gv 3 (.alloc 38 (.agg #[oz,oz,oz,oz,oz,oz,oz,oz,oz,oz])),
 ⟨none,.store 10 (.tmp 3) (.tmp 31),none⟩,
 gv 4 (.mv (.tmp 32))]
def c13r4 : List GOp:=[
 gv 33 (.fadd 4 (.tmp 1)),
 ⟨none,.store 1 (.tmp 33) (.const (.int .i64 5)),none⟩]
def c13r5 : List GOp:=[
 gv 35 (.build (.agg #[(.slice none 0 0)]) []),
 gv 36 (.build (.agg #[oz,(.slice none 0 0),(.slice none 0 0),oz]) []),
 gv 37 (.bslice 64 4 1 (.agg #[oz,(.slice none 0 0),(.slice none 0 0),oz]) [(0,(.tmp 36))]),
 gv 38 (.load 16 true (.tmp 1)),
 gv 39 (.bslice 45 16 1 (.agg #[(.bool false),(.bool false),(.bool false),oz,oz,oz,oz,oz,oz,oz,oz,oz,oz,oz,oz,oz]) [(0,(.tmp 38))]),
 gv 40 (.build (.agg #[(.slice none 0 0),(.slice none 0 0)]) [((0,1),(.tmp 37)),((1,1),(.tmp 39))]),
 gv 41 (.call 16 [(.tmp 35),(.tmp 40)]),
 gv 34 (.mv (.tmp 41)),
 gv 42 (.ext (.tmp 34) 0),
 gv 43 (.ext (.tmp 34) 1),
 gv 5 (.alloc 38 (.agg #[oz,oz,oz,oz,oz,oz,oz,oz,oz,oz])),
 ⟨none,.store 10 (.tmp 5) (.tmp 42),none⟩,
 gv 6 (.mv (.tmp 43))]
def c13r6 : List GOp:=[
 gv 44 (.build (.agg #[oz,oz]) [((1,1),(.const (.int .i64 1)))]),
 gv 7 (.alloc 34 (.agg #[oz,oz])),
 ⟨none,.store 2 (.tmp 7) (.tmp 44),none⟩]
def c13r7 : List GOp:=[
 gv 45 (.call 28 []),
 gv 46 (.bslice 57 20 1 (.agg #[oz,oz,oz,oz,oz,oz,oz,oz,oz,oz,oz,oz,oz,oz,oz,oz,oz,oz,oz,oz]) [(0,(.tmp 45))]),
 gv 47 (.build (.agg #[oz,(.string ⟨#[]⟩),(.slice none 0 0),oz,oz,oz,oz,oz]) [((0,1),(.const (.int .i64 1))),((1,1),(.const (.string ⟨#[97]⟩))),((2,1),(.tmp 46))]),
 gv 48 (.load 2 true (.tmp 7)),
 gv 49 (.load 2 true (.tmp 7)),
 gv 50 (.call 28 []),
 gv 51 (.bslice 57 20 1 (.agg #[oz,oz,oz,oz,oz,oz,oz,oz,oz,oz,oz,oz,oz,oz,oz,oz,oz,oz,oz,oz]) [(0,(.tmp 50))]),
 gv 52 (.build (.agg #[oz,(.string ⟨#[]⟩),(.slice none 0 0),oz,oz,oz,oz,oz]) [((0,1),(.const (.int .i64 3))),((1,1),(.const (.string ⟨#[112]⟩))),((3,1),(.const (.int .i64 100))),((4,2),(.tmp 48)),((6,2),(.tmp 49)),((2,1),(.tmp 51))]),
 gv 53 (.bslice 36 8 2 (.agg #[oz,(.string ⟨#[]⟩),(.slice none 0 0),oz,oz,oz,oz,oz]) [(0,(.tmp 47)),(1,(.tmp 52))]),
 gv 54 (.build (.agg #[(.slice none 0 0)]) [((0,1),(.tmp 53))]),
 gv 8 (.alloc 24 (.agg #[(.slice none 0 0)])),
 ⟨none,.store 1 (.tmp 8) (.tmp 54),none⟩]
def c13r8 : List GOp:=[
 gv 55 (.call 27 []),
 gv 9 (.alloc 45 (.agg #[(.bool false),(.bool false),(.bool false),oz,oz,oz,oz,oz,oz,oz,oz,oz,oz,oz,oz,oz])),
 ⟨none,.store 16 (.tmp 9) (.tmp 55),none⟩]
def c13r9 : List GOp:=[
 gv 56 (.fadd 0 (.tmp 9)),
 ⟨none,.store 1 (.tmp 56) (.const (.bool true)),none⟩,
 gv 57 (.fadd 4 (.tmp 9)),
 ⟨none,.store 1 (.tmp 57) (.const (.int .i64 100)),none⟩,
 gv 58 (.fadd 15 (.tmp 9)),
 ⟨none,.store 1 (.tmp 58) (.const (.int .i64 0)),none⟩]
def c13r10 : List GOp:=[
 gv 59 (.load 16 true (.tmp 9)),
 gv 10 (.alloc 45 (.agg #[(.bool false),(.bool false),(.bool false),oz,oz,oz,oz,oz,oz,oz,oz,oz,oz,oz,oz,oz])),
 ⟨none,.store 16 (.tmp 10) (.tmp 59),none⟩]
def c13r11 : List GOp:=[
 gv 60 (.fadd 0 (.tmp 10)),
 ⟨none,.store 1 (.tmp 60) (.const (.bool false)),none⟩]
def c13r12 : List GOp:=[
 gv 61 (.bslice 3 1 1 oz [(0,(.const (.int .i64 18)))]),
 gv 62 (.bslice 3 1 2 oz [(0,(.const (.int .i64 1))),(1,(.const (.int .i64 2)))]),
 gv 63 (.build (.agg #[oz,(.slice none 0 0),(.slice none 0 0),oz]) [((0,1),(.const (.int .i64 1))),((1,1),(.tmp 61)),((2,1),(.tmp 62))]),
 gv 64 (.build (.agg #[oz,(.slice none 0 0),(.slice none 0 0),oz]) []),
 gv 65 (.build (.agg #[oz,(.slice none 0 0),(.slice none 0 0),oz]) [((3,1),(.const (.int .i64 1)))]),
 gv 66 (.bslice 64 4 3 (.agg #[oz,(.slice none 0 0),(.slice none 0 0),oz]) [(0,(.tmp 63)),(1,(.tmp 64)),(2,(.tmp 65))]),
 gv 67 (.load 16 true (.tmp 10)),
 gv 68 (.load 16 true (.tmp 9)),
 gv 69 (.bslice 45 16 2 (.agg #[(.bool false),(.bool false),(.bool false),oz,oz,oz,oz,oz,oz,oz,oz,oz,oz,oz,oz,oz]) [(0,(.tmp 67)),(1,(.tmp 68))]),
 gv 70 (.build (.agg #[(.slice none 0 0),(.slice none 0 0)]) [((0,1),(.tmp 66)),((1,1),(.tmp 69))]),
 gv 11 (.alloc 28 (.agg #[(.slice none 0 0),(.slice none 0 0)])),
 ⟨none,.store 2 (.tmp 11) (.tmp 70),none⟩]
def c13r13 : List GOp:=[
 gv 71 (.bslice 3 1 1 oz [(0,(.const (.int .i64 18)))]),
 gv 72 (.bslice 3 1 2 oz [(0,(.const (.int .i64 1))),(1,(.const (.int .i64 2)))]),
 gv 73 (.build (.agg #[oz,(.slice none 0 0),(.slice none 0 0),oz]) [((0,1),(.const (.int .i64 1))),((1,1),(.tmp 71)),((2,1),(.tmp 72))]),
 gv 74 (.build (.agg #[oz,(.slice none 0 0),(.slice none 0 0),oz]) []),
 gv 75 (.build (.agg #[oz,(.slice none 0 0),(.slice none 0 0),oz]) [((3,1),(.const (.int .i64 1)))]),
 gv 76 (.bslice 64 4 3 (.agg #[oz,(.slice none 0 0),(.slice none 0 0),oz]) [(0,(.tmp 73)),(1,(.tmp 74)),(2,(.tmp 75))]),
 gv 77 (.load 16 true (.tmp 9)),
 gv 78 (.load 16 true (.tmp 10)),
 gv 79 (.bslice 45 16 2 (.agg #[(.bool false),(.bool false),(.bool false),oz,oz,oz,oz,oz,oz,oz,oz,oz,oz,oz,oz,oz]) [(0,(.tmp 77)),(1,(.tmp 78))]),
 gv 80 (.build (.agg #[(.slice none 0 0),(.slice none 0 0)]) [((0,1),(.tmp 76)),((1,1),(.tmp 79))]),
 gv 12 (.alloc 28 (.agg #[(.slice none 0 0),(.slice none 0 0)])),
 ⟨none,.store 2 (.tmp 12) (.tmp 80),none⟩]
def c13r14 : List GOp:=[
 gv 82 (.load 1 true (.tmp 8)),
 gv 83 (.load 2 true (.tmp 11)),
 gv 84 (.call 16 [(.tmp 82),(.tmp 83)]),
 gv 81 (.mv (.tmp 84)),
 gv 85 (.ext (.tmp 81) 0),
 gv 86 (.ext (.tmp 81) 1),
 gv 13 (.alloc 38 (.agg #[oz,oz,oz,oz,oz,oz,oz,oz,oz,oz])),
 ⟨none,.store 10 (.tmp 13) (.tmp 85),none⟩,
 gv 14 (.mv (.tmp 86))]
def c13r15 : List GOp:=[
 gv 88 (.load 1 true (.tmp 8)),
 gv 89 (.load 2 true (.tmp 12)),
 gv 90 (.call 16 [(.tmp 88),(.tmp 89)]),
 gv 87 (.mv (.tmp 90)),
 gv 91 (.ext (.tmp 87) 0),
 gv 92 (.ext (.tmp 87) 1),
 gv 15 (.alloc 38 (.agg #[oz,oz,oz,oz,oz,oz,oz,oz,oz,oz])),
 ⟨none,.store 10 (.tmp 15) (.tmp 91),none⟩,
 gv 16 (.mv (.tmp 92))]
def c13r16 : List GOp:=[
 gv 94 (.load 1 true (.tmp 8)),
 gv 95 (.build (.agg #[(.slice none 0 0),(.slice none 0 0)]) []),
 gv 96 (.call 16 [(.tmp 94),(.tmp 95)]),
 gv 93 (.mv (.tmp 96)),
 gv 97 (.ext (.tmp 93) 0),
 gv 98 (.ext (.tmp 93) 1),
 gv 17 (.alloc 38 (.agg #[oz,oz,oz,oz,oz,oz,oz,oz,oz,oz])),
 ⟨none,.store 10 (.tmp 17) (.tmp 97),none⟩,
 gv 18 (.mv (.tmp 98))]
def c13r17 : List GOp:=[
 gv 99 (.call 29 []),
 gv 19 (.alloc 38 (.agg #[oz,oz,oz,oz,oz,oz,oz,oz,oz,oz])),
 ⟨none,.store 10 (.tmp 19) (.tmp 99),none⟩]
def c13r18 : List GOp:=[
 gv 100 (.load 10 true (.tmp 19)),
 gv 20 (.alloc 38 (.agg #[oz,oz,oz,oz,oz,oz,oz,oz,oz,oz])),
 ⟨none,.store 10 (.tmp 20) (.tmp 100),none⟩]
def c13r19 : List GOp:=[
 gv 101 (.idxP 10 1 (.tmp 20) (.const (.int .i64 1))),
 ⟨none,.store 1 (.tmp 101) (.const (.int .i64 18)),none⟩]
def c13r20 : List GOp:=[
 gv 102 (.mv (.tmp 4)),
 gv 103 (.un .not (.tmp 102)),
 gv 104 (.mv (.tmp 103)),
 gw 105 104 true (.load 10 true (.tmp 3)),
 gw 106 104 true (.build (.agg #[oz,oz,oz,oz,oz,oz,oz,oz,oz,oz]) []),
 gw 107 104 true (.beq false [.int,.int,.int,.int,.int,.int,.int,.int,.int,.int] (.tmp 105) (.tmp 106)),
 gv 108 (.pick (.tmp 104) (.tmp 107) (.const (.bool false))),
 gv 109 (.mv (.tmp 108)),
 gw 110 109 true (.mv (.tmp 6)),
 gv 111 (.pick (.tmp 109) (.tmp 110) (.const (.bool false))),
 gv 112 (.mv (.tmp 111)),
 gw 113 112 true (.load 10 true (.tmp 5)),
 gw 114 112 true (.load 10 true (.tmp 19)),
 gw 115 112 true (.beq false [.int,.int,.int,.int,.int,.int,.int,.int,.int,.int] (.tmp 113) (.tmp 114)),
 gv 116 (.pick (.tmp 112) (.tmp 115) (.const (.bool false))),
 gv 117 (.mv (.tmp 116)),
 gw 118 117 true (.mv (.tmp 14)),
 gv 119 (.pick (.tmp 117) (.tmp 118) (.const (.bool false))),
 gv 120 (.mv (.tmp 119)),
 gw 121 120 true (.load 10 true (.tmp 13)),
 gw 122 120 true (.load 10 true (.tmp 19)),
 gw 123 120 true (.beq false [.int,.int,.int,.int,.int,.int,.int,.int,.int,.int] (.tmp 121) (.tmp 122)),
 gv 124 (.pick (.tmp 120) (.tmp 123) (.const (.bool false))),
 gv 125 (.mv (.tmp 124)),
 gw 126 125 true (.mv (.tmp 16)),
 gv 127 (.pick (.tmp 125) (.tmp 126) (.const (.bool false))),
 gv 128 (.mv (.tmp 127)),
 gw 129 128 true (.load 10 true (.tmp 15)),
 gw 130 128 true (.load 10 true (.tmp 20)),
 gw 131 128 true (.beq false [.int,.int,.int,.int,.int,.int,.int,.int,.int,.int] (.tmp 129) (.tmp 130)),
 gv 132 (.pick (.tmp 128) (.tmp 131) (.const (.bool false))),
 gv 133 (.mv (.tmp 132)),
 gw 134 133 true (.mv (.tmp 18)),
 gv 135 (.pick (.tmp 133) (.tmp 134) (.const (.bool false))),
 gv 0 (.mv (.tmp 135))]
def c13 : EFn:=⟨136,.seq (.reg c13r0) (.seq (.reg c13r1) (.seq (.reg c13r2) (.seq (.reg c13r3) (.seq (.reg c13r4) (.seq (.reg c13r5) (.seq (.reg c13r6) (.seq (.par false false false 11 c13r7) (.seq (.reg c13r8) (.seq (.reg c13r9) (.seq (.reg c13r10) (.seq (.reg c13r11) (.seq (.reg c13r12) (.seq (.reg c13r13) (.seq (.reg c13r14) (.seq (.reg c13r15) (.seq (.reg c13r16) (.seq (.reg c13r17) (.seq (.reg c13r18) (.seq (.reg c13r19) (.seq (.reg c13r20) (.ret))))))))))))))))))))),[.tmp 0]⟩
theorem c13_ok : compF Tryd.prog 13=some c13.er:=by kernel_rfl
set_option maxHeartbeats 4000000 in
theorem law15_head_R {P:Program}(hP:P=Tryd.prog)(r:Bool)(h:law15_head_g=some r):Fn1 P 13 [] (vB r):=by
 refine .walkE (hP▸c13_ok) fun K hK=>?_;unfold law15_head_g at h;cbv;refine .g h (fun v hv=>law15_none_R hP v hv) aw_ rfl (fun _=>rfl) fun v1 h=>?_;cbv;refine .g (e:=eNode) h (W_cons aw_ (W_nil' _)) fun l2 h=>?_;cbv;refine .g (e:=eDecision) h (W_cons aw_ (W_nil' _)) fun l3 h=>?_;cbv;refine .g h (fun v hv=>verify_Differ_R hP _ _ v hv) aw_ rfl (fun _=>rfl) fun v4 h=>?_;cbv;refine .g (e:=eNode) h (W_cons aw_ (W_nil' _)) fun l5 h=>?_;cbv;refine .g (e:=eDecision) h (W_cons aw_ (W_nil' _)) fun l6 h=>?_;cbv;refine .g h (fun v hv=>verify_Differ_R hP _ _ v hv) aw_ rfl (fun _=>rfl) fun v7 h=>?_;cbv;refine .g h (fun v hv=>ref12_Limits_R hP v hv) aw_ rfl (fun _=>rfl) fun v8 h=>?_;cbv;refine .g (e:=eA10Range) h (W_cons aw_ (W_nil' _)) fun l9 h=>?_;cbv;refine .g h (fun v hv=>ref12_Limits_R hP v hv) aw_ rfl (fun _=>rfl) fun v10 h=>?_;cbv;refine .g (e:=eA10Range) h (W_cons aw_ (W_nil' _)) fun l11 h=>?_;cbv;refine .g (e:=eRule) h (W_cons aw_ (W_cons aw_ (W_nil' _))) fun l12 h=>?_;cbv;refine .g h (fun v hv=>law15_none_R hP v hv) aw_ rfl (fun _=>rfl) fun v13 h=>?_;cbv;refine .g (e:=eIi64) h (W_cons aw_ (W_nil' _)) fun l14 h=>?_;cbv;refine .g (e:=eIi64) h (W_cons aw_ (W_cons aw_ (W_nil' _))) fun l15 h=>?_;cbv;refine .g (e:=eNode) h (W_cons aw_ (W_cons aw_ (W_cons aw_ (W_nil' _)))) fun l16 h=>?_;cbv;refine .g (e:=eDecision) h (W_cons aw_ (W_cons aw_ (W_nil' _))) fun l17 h=>?_;cbv;refine .g (e:=eIi64) h (W_cons aw_ (W_nil' _)) fun l18 h=>?_;cbv;refine .g (e:=eIi64) h (W_cons aw_ (W_cons aw_ (W_nil' _))) fun l19 h=>?_;cbv;refine .g (e:=eNode) h (W_cons aw_ (W_cons aw_ (W_cons aw_ (W_nil' _)))) fun l20 h=>?_;cbv;refine .g (e:=eDecision) h (W_cons aw_ (W_cons aw_ (W_nil' _))) fun l21 h=>?_;cbv;refine .g h (fun v hv=>verify_Differ_R hP _ _ v hv) aw_ rfl (fun _=>rfl) fun v22 h=>?_;cbv;refine .g h (fun v hv=>verify_Differ_R hP _ _ v hv) aw_ rfl (fun _=>rfl) fun v23 h=>?_;cbv;refine .g h (fun v hv=>verify_Differ_R hP _ _ v hv) aw_ rfl (fun _=>rfl) fun v24 h=>?_;cbv;refine .g h (fun v hv=>ref15_Start_R hP v hv) aw_ rfl (fun _=>rfl) fun v25 h=>?_;cbv;refine .lit 1 rfl (by decide) ?_;cbv;refine brkG h ?_ ?_<;>intro h
 ·cbv;refine brkG h ?_ ?_<;>intro h
  ·cbv;refine brkG h ?_ ?_<;>intro h
   ·cbv;refine brkG h ?_ ?_<;>intro h
    ·cbv;refine brkG h ?_ ?_<;>intro h
     ·cbv;refine brkG h ?_ ?_<;>intro h
      ·cbv;refine brkG h ?_ ?_<;>intro h
       ·cbv;refine brkG h ?_ ?_<;>intro h
        ·cbv;obtain rfl:=oj h;exact hK _ _ aw_
        ·cbv;obtain rfl:=oj h;exact hK _ _ aw_
       ·cbv;obtain rfl:=oj h;exact hK _ _ aw_
      ·cbv;obtain rfl:=oj h;exact hK _ _ aw_
     ·cbv;obtain rfl:=oj h;exact hK _ _ aw_
    ·cbv;obtain rfl:=oj h;exact hK _ _ aw_
   ·cbv;obtain rfl:=oj h;exact hK _ _ aw_
  ·cbv;obtain rfl:=oj h;exact hK _ _ aw_
 ·cbv;obtain rfl:=oj h;exact hK _ _ aw_
end Go.SX.Td
namespace Go.SX.Td
open Go Go.SX Go.Proofs
set_option maxRecDepth 100000
def c23r0 : List GOp:=[
 gv 1 (.box 24 (.tmp 0)),
 gv 2 (.mv (.const (.bool false)))]
def c23r1 : List GOp:=[
 gv 3 (.mv (.const (.int .i64 0)))]
def c23r2 : List GOp:=[
 gv 4 (.mv (.const (.int .i64 0)))]
def c23r3 : List GOp:=[
 gv 5 (.mv (.tmp 4)),
 gv 6 (.fadd 0 (.tmp 1)),
 gv 7 (.load 1 false (.tmp 6)),
 gv 8 (.len false (.tmp 7)),
 gv 9 (.bin .lss (.tmp 5) (.tmp 8))]
def c23r4 : List GOp:=[
 gv 12 (.mv (.tmp 3)),
 gv 13 (.fadd 0 (.tmp 1)),
 gv 14 (.load 1 false (.tmp 13)),
 gv 15 (.mv (.tmp 4)),
 gv 16 (.idxA 8 (.tmp 14) (.tmp 15)),
 gv 17 (.fadd 2 (.tmp 16)),
 gv 18 (.load 1 false (.tmp 17)),
 gv 19 (.len false (.tmp 18)),
 gv 20 (.bin .add (.tmp 12) (.tmp 19)),
 gv 3 (.mv (.tmp 20))]
def c23r5 : List GOp:=[
 gv 21 (.fadd 0 (.tmp 1)),
 gv 22 (.load 1 false (.tmp 21)),
 gv 23 (.mv (.tmp 4)),
 gv 24 (.idxA 8 (.tmp 22) (.tmp 23)),
 gv 25 (.fadd 1 (.tmp 24)),
 gv 26 (.load 1 false (.tmp 25)),
 gv 27 (.len true (.tmp 26)),
 gv 28 (.bin .gtr (.tmp 27) (.const (.int .i64 60)))]
def c23r6 : List GOp:=[
 gv 2 (.mv (.const (.bool false)))]
def c23r7 : List GOp:=[
 gv 10 (.mv (.tmp 4)),
 gv 11 (.bin .add (.tmp 10) (.const (.int .i64 1))),
 gv 4 (.mv (.tmp 11))]
def c23l8 : DE:=.seq (.seq (.reg c23r3) (.cond (.tmp 9) (.skip) (.exit 0))) (.seq (.block 1 (.seq (.reg c23r4) (.seq (.reg c23r5) (.cond (.tmp 28) (.seq (.reg c23r6) (.ret)) (.skip))))) (.reg c23r7))
def c23r9 : List GOp:=[
 gv 29 (.fadd 0 (.tmp 1)),
 gv 30 (.load 1 false (.tmp 29)),
 gv 31 (.len false (.tmp 30)),
 gv 32 (.bin .leq (.tmp 31) (.const (.int .i64 8))),
 gv 33 (.mv (.tmp 32)),
 gw 34 33 true (.mv (.tmp 3)),
 gw 35 33 true (.bin .leq (.tmp 34) (.const (.int .i64 10))),
 gv 36 (.pick (.tmp 33) (.tmp 35) (.const (.bool false))),
 gv 2 (.mv (.tmp 36))]
def c23 : EFn:=⟨37,.seq (.reg c23r0) (.seq (.reg c23r1) (.join (.seq (.reg c23r2) (.block 0 (.loop c23l8))) (.seq (.reg c23r9) (.ret)))),[.tmp 2]⟩
theorem c23_ok : compF Tryd.prog 23=some c23.er:=by kernel_rfl
set_option maxHeartbeats 4000000 in
theorem ref14_Few_R {P:Program}(hP:P=Tryd.prog)(p:Policy)(r:Bool)(h:ref14_Few_g p=some r):Fn1 P 23 [vPolicy p] (vB r):=by
 refine .walkE (hP▸c23_ok) fun K hK=>?_;unfold ref14_Few_g at h;cbv;refine .ga h (fun (zones1:Int)=>[.top,.ptr 0 0,.top,oi zones1]++rp 33 .top) (fun zones1=>[.cells [.d (.sl (W eRule p.Rules))] 24]) (fun y hm hr1 Kn1 hKn1=>?_) fun t h=>?_
 ·have h:=hm;clear hm;cbv;refine .g h (fun ((zones2,i3):Int×Int)=>[.top,.ptr 0 0,.top,oi zones2,oi i3]++rp 32 .top) (fun (zones2,i3)=>[.cells [.d (.sl (W eRule p.Rules))] 24]) (.nz (.mtE [0] ?_)) fun s x h hr2 Kn2 hKn2=>?_
  ·(cbv;repeat (refine⟨an_,?_⟩;cbv))
  unfold ref14_Few_l2 at h;obtain⟨zones2,i3⟩:=s;cbv;refine brkG h ?_ ?_<;>intro h
  ·cbv;refine .g h (fun _=>rfl) fun x4 h=>?_;cbv;refine .g h (fun _=>rfl) fun x5 h=>?_;cbv;refine brkG h ?_ ?_<;>intro h
   ·cbv;obtain rfl:=oj h;obtain rfl:=hr2 _ rfl;obtain rfl:=hr1 _ rfl;exact hK _ _ aw_
   ·cbv;obtain rfl:=oj h;refine hKn2 _ _ _ rfl (.nz (.mtE [0] ?_));(cbv;repeat (refine⟨an_,?_⟩;cbv))
  ·cbv;obtain rfl:=oj h;obtain rfl:=hr2 _ rfl;refine hKn1 _ _ _ rfl (.nz (.mtE [0] ?_));(cbv;repeat (refine⟨an_,?_⟩;cbv))
 obtain⟨zones1,rfl⟩:=ez t;cbv;refine brkG h ?_ ?_<;>intro h
 ·cbv;obtain rfl:=oj h;exact hK _ _ aw_
 ·cbv;obtain rfl:=oj h;exact hK _ _ aw_
end Go.SX.Td
namespace Go.SX.Td
open Go Go.SX Go.Proofs
set_option maxRecDepth 100000
def c30r0 : List GOp:=[
 gv 1 (.box 28 (.tmp 0)),
 gv 2 (.mv (.const (.bool false)))]
def c30r1 : List GOp:=[
 gv 3 (.mv (.const (.int .i64 0)))]
def c30r2 : List GOp:=[
 gv 4 (.mv (.tmp 3)),
 gv 5 (.fadd 0 (.tmp 1)),
 gv 6 (.load 1 false (.tmp 5)),
 gv 7 (.len false (.tmp 6)),
 gv 8 (.bin .lss (.tmp 4) (.tmp 7))]
def c30r3 : List GOp:=[
 gv 11 (.fadd 0 (.tmp 1)),
 gv 12 (.load 1 false (.tmp 11)),
 gv 13 (.mv (.tmp 3)),
 gv 14 (.idxA 4 (.tmp 12) (.tmp 13)),
 gv 15 (.fadd 1 (.tmp 14)),
 gv 16 (.load 1 false (.tmp 15)),
 gv 17 (.len false (.tmp 16)),
 gv 18 (.bin .gtr (.tmp 17) (.const (.int .i64 20))),
 gv 19 (.mv (.tmp 18)),
 gw 20 19 false (.fadd 0 (.tmp 1)),
 gw 21 19 false (.load 1 false (.tmp 20)),
 gw 22 19 false (.mv (.tmp 3)),
 gw 23 19 false (.idxA 4 (.tmp 21) (.tmp 22)),
 gw 24 19 false (.fadd 2 (.tmp 23)),
 gw 25 19 false (.load 1 false (.tmp 24)),
 gw 26 19 false (.len false (.tmp 25)),
 gw 27 19 false (.bin .gtr (.tmp 26) (.const (.int .i64 21))),
 gv 28 (.pick (.tmp 19) (.const (.bool true)) (.tmp 27))]
def c30r4 : List GOp:=[
 gv 2 (.mv (.const (.bool false)))]
def c30r5 : List GOp:=[
 gv 9 (.mv (.tmp 3)),
 gv 10 (.bin .add (.tmp 9) (.const (.int .i64 1))),
 gv 3 (.mv (.tmp 10))]
def c30l6 : DE:=.seq (.seq (.reg c30r2) (.cond (.tmp 8) (.skip) (.exit 0))) (.seq (.block 1 (.join (.reg c30r3) (.cond (.tmp 28) (.seq (.reg c30r4) (.ret)) (.skip)))) (.reg c30r5))
def c30r7 : List GOp:=[
 gv 29 (.fadd 0 (.tmp 1)),
 gv 30 (.load 1 false (.tmp 29)),
 gv 31 (.len false (.tmp 30)),
 gv 32 (.bin .leq (.tmp 31) (.const (.int .i64 60))),
 gv 33 (.mv (.tmp 32)),
 gw 34 33 true (.fadd 1 (.tmp 1)),
 gw 35 33 true (.load 1 false (.tmp 34)),
 gw 36 33 true (.len false (.tmp 35)),
 gw 37 33 true (.bin .leq (.tmp 36) (.const (.int .i64 60))),
 gv 38 (.pick (.tmp 33) (.tmp 37) (.const (.bool false))),
 gv 2 (.mv (.tmp 38))]
def c30 : EFn:=⟨39,.seq (.reg c30r0) (.join (.seq (.reg c30r1) (.block 0 (.loop c30l6))) (.seq (.reg c30r7) (.ret))),[.tmp 2]⟩
theorem c30_ok : compF Tryd.prog 30=some c30.er:=by kernel_rfl
set_option maxHeartbeats 4000000 in
theorem ref14_Small_R {P:Program}(hP:P=Tryd.prog)(t_:Table)(r:Bool)(h:ref14_Small_g t_=some r):Fn1 P 30 [vTable t_] (vB r):=by
 refine .walkE (hP▸c30_ok) fun K hK=>?_;unfold ref14_Small_g at h;cbv;refine .ga h (fun (_:Unit)=>[.top,.ptr 0 0]++rp 37 .top) (fun _=>[.cells [.d (.sl (W eNode t_.Nodes)),.d (.sl (W eDecision t_.Leaves))] 28]) (fun y hm hr1 Kn1 hKn1=>?_) fun t h=>?_
 ·have h:=hm;clear hm;cbv;refine .g h (fun (i1:Int)=>[.top,.ptr 0 0,.top,oi i1]++rp 35 .top) (fun i1=>[.cells [.d (.sl (W eNode t_.Nodes)),.d (.sl (W eDecision t_.Leaves))] 28]) (.nz (.mtE [0] ?_)) fun s x h hr2 Kn2 hKn2=>?_
  ·(cbv;repeat (refine⟨an_,?_⟩;cbv))
  unfold ref14_Small_l2 at h;obtain⟨i1,rfl⟩:=ez s;cbv;refine brkG h ?_ ?_<;>intro h
  ·cbv;refine .g h (fun (v2:Bool)=>[.top,.ptr 0 0,.top,oi i1]++rp 24 .top++[ob v2]++rp 10 .top) (fun v2=>[.cells [.d (.sl (W eNode t_.Nodes)),.d (.sl (W eDecision t_.Leaves))] 28]) (fun y hm Kn3 hKn3=>?_) fun t h=>?_
   ·have h:=hm;clear hm;cbv;refine .g h (fun _=>rfl) fun x3 h=>?_;cbv;refine brkG h ?_ ?_<;>intro h
    ·cbv;obtain rfl:=oj h;refine hKn3 _ _ _ rfl (.nz (.mtE [0] ?_));(cbv;repeat (refine⟨an_,?_⟩;cbv))
    ·cbv;refine .g h (fun _=>rfl) fun x4 h=>?_;cbv;obtain rfl:=oj h;refine hKn3 _ _ _ rfl (.nz (.mtE [0] ?_));(cbv;repeat (refine⟨an_,?_⟩;cbv))
   obtain⟨v2,rfl⟩:=ez t;cbv;refine brkG h ?_ ?_<;>intro h
   ·cbv;obtain rfl:=oj h;obtain rfl:=hr2 _ rfl;obtain rfl:=hr1 _ rfl;exact hK _ _ aw_
   ·cbv;obtain rfl:=oj h;refine hKn2 _ _ _ rfl (.nz (.mtE [0] ?_));(cbv;repeat (refine⟨an_,?_⟩;cbv))
  ·cbv;obtain rfl:=oj h;obtain rfl:=hr2 _ rfl;refine hKn1 _ _ _ rfl (.nz (.mtE [0] ?_));(cbv;repeat (refine⟨an_,?_⟩;cbv))
 cbv;refine brkG h ?_ ?_<;>intro h
 ·cbv;obtain rfl:=oj h;exact hK _ _ aw_
 ·cbv;obtain rfl:=oj h;exact hK _ _ aw_
end Go.SX.Td
namespace Go.SX.Td
open Go Go.SX Go.Proofs
set_option maxRecDepth 100000
def c14r0 : List GOp:=[
 gv 2 (.box 24 (.tmp 0)),
 gv 3 (.box 28 (.tmp 1)),
 gv 4 (.mv (.const (.bool false)))]
def c14r1 : List GOp:=[
 gv 5 (.load 1 true (.tmp 2)),
 gv 6 (.call 23 [(.tmp 5)]),
 gv 7 (.mv (.tmp 6)),
 gw 8 7 true (.load 2 true (.tmp 3)),
 gw 9 7 true (.call 30 [(.tmp 8)]),
 gv 10 (.pick (.tmp 7) (.tmp 9) (.const (.bool false))),
 gv 4 (.mv (.tmp 10))]
def c14 : EFn:=⟨11,.seq (.reg c14r0) (.seq (.reg c14r1) (.ret)),[.tmp 4]⟩
theorem c14_ok : compF Tryd.prog 14=some c14.er:=by kernel_rfl
set_option maxHeartbeats 4000000 in
theorem law15_few_R {P:Program}(hP:P=Tryd.prog)(p:Policy)(t_:Table)(r:Bool)(h:law15_few_g p t_=some r):Fn1 P 14 [vPolicy p,vTable t_] (vB r):=by
 refine .walkE (hP▸c14_ok) fun K hK=>?_;unfold law15_few_g at h;cbv;refine .g h (fun v hv=>ref14_Few_R hP _ v hv) aw_ rfl (fun _=>rfl) fun v1 h=>?_;cbv;refine brkG h ?_ ?_<;>intro h
 ·cbv;refine .g h (fun v hv=>ref14_Small_R hP _ v hv) aw_ rfl (fun _=>rfl) fun v2 h=>?_;cbv;obtain rfl:=oj h;exact hK _ _ aw_
 ·cbv;obtain rfl:=oj h;exact hK _ _ aw_
end Go.SX.Td
