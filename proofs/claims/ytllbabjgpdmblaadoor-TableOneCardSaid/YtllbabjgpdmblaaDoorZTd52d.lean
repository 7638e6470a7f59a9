/- Parts of the proof. -/
import Derived.Test.YtllbabjgpdmblaaDoorZTdT
import Derived.Test.YtllbabjgpdmblaaDoorZTd32d
import Derived.Test.YtllbabjgpdmblaaDoorZTdBuilder
import Derived.Test.YtllbabjgpdmblaaDoorZTd20d
import Derived.Test.YtllbabjgpdmblaaDoorZTdCompact
import Derived.Test.YtllbabjgpdmblaaDoorZTd32
import Derived.Test.YtllbabjgpdmblaaDoorZTdSwalkV
import Derived.Test.YtllbabjgpdmblaaDoorZTdSwalkT
set_option linter.unusedSimpArgs false
set_option linter.unusedVariables false
set_option linter.unusedSectionVars false
namespace Go.SX.Td
open Go Go.SX Go.Proofs
set_option maxRecDepth 100000
noncomputable def law14_rule_g (kind:Int)(name:ByteArray)(n:Int)(z_:(A10 Range)):Option (Rule) :=
 Option.bind (some [z_]) fun l1 =>
 some (Rule.mk kind name l1 n (Ratio.mk 0 1) (Ratio.mk 0 1))
end Go.SX.Td
namespace Go.SX.Td
open Go Go.SX Go.Proofs
set_option maxRecDepth 100000
noncomputable def law14_all_g (attr:Int)(r_:Range):Option ((A10 Range)) :=
 Option.bind (resolve_Limits_g) fun v1 =>
 Option.bind (
 Option.bind (pixG 10 attr) fun i3 =>
 some (v1.put i3 r_)
 ) fun z2 =>
 some z2
end Go.SX.Td
namespace Go.SX.Td
open Go Go.SX Go.Proofs
set_option maxRecDepth 100000
noncomputable def law14_head_g : Option (Bool) :=
 Option.bind (resolve_Limits_g) fun v1 =>
 Option.bind (law14_all_g 2 (Range.mk 1 1)) fun v2 =>
 Option.bind (law14_rule_g 1 (⟨#[97]⟩) 0 v2) fun v3 =>
 Option.bind (law14_rule_g 3 (⟨#[112]⟩) 100 v1) fun v4 =>
 Option.bind (law14_all_g 1 (Range.mk 0 17)) fun v5 =>
 Option.bind (law14_rule_g 2 (⟨#[100]⟩) 0 v5) fun v6 =>
 Option.bind (table_Build_g (Policy.mk [])) fun v7 =>
 Option.bind (law14_rule_g 1 (⟨#[97]⟩) 0 v1) fun v8 =>
 Option.bind (some [v8,v4]) fun l9 =>
 Option.bind (table_Build_g (Policy.mk l9)) fun v10 =>
 Option.bind (some [v3,v4]) fun l11 =>
 Option.bind (table_Build_g (Policy.mk l11)) fun v12 =>
 Option.bind (some [v3,v4,v6]) fun l13 =>
 Option.bind (table_Build_g (Policy.mk l13)) fun v14 =>
 Option.bind (some [(Rule.mk 0 (⟨#[]⟩) [] 0 (Ratio.mk 0 0) (Ratio.mk 0 0))]) fun l15 =>
 Option.bind (table_Build_g (Policy.mk l15)) fun v16 =>
 Option.bind (
 bif (io.not (io.eq v7.2 0)) then (
 some true
 ) else (
 bif (io.not (io.eq v10.2 0)) then (
 some true
 ) else (
 bif (io.not (io.eq v12.2 0)) then (
 some true
 ) else (
 bif (io.not (io.eq v14.2 0)) then (
 some true
 ) else (
 bif (io.not (io.eq v16.2 1)) then (
 some true
 ) else (
 bif (io.not (io.eq (io.len (W eNode v7.1.Nodes)) 1)) then (
 some true
 ) else (
 bif (io.not (io.eq (io.len (W eNode v10.1.Nodes)) 1)) then (
 some true
 ) else (
 bif (io.not (io.eq (io.len (W eNode v12.1.Nodes)) 3)) then (
 some true
 ) else (
 some (io.not (io.eq (io.len (W eNode v14.1.Nodes)) 5))
 )
 )
 )
 )
 )
 )
 )
 )
 ) fun v17 =>
 bif v17 then (
 some false
 ) else (
 Option.bind (
 Option.bind (idxG v7.1.Leaves 0) fun x19 =>
 bif (io.not x19.Allowed) then (
 Option.bind (idxG v10.1.Leaves 0) fun x20 =>
 bif x20.Allowed then (
 Option.bind (idxG v10.1.Leaves 0) fun x21 =>
 bif (io.eq x21.Price 100) then (
 Option.bind (idxG v12.1.Nodes 0) fun x22 =>
 Option.bind (some [1]) fun l23 =>
 Option.bind (some [1,2]) fun l24 =>
 Option.bind (ref14_Equal_g x22 (Node.mk 2 l23 l24 0)) fun v25 =>
 bif v25 then (
 Option.bind (idxG v14.1.Nodes 0) fun x26 =>
 Option.bind (some [18]) fun l27 =>
 Option.bind (some [1,2]) fun l28 =>
 Option.bind (ref14_Equal_g x26 (Node.mk 1 l27 l28 0)) fun v29 =>
 some v29
 ) else (
 some false
 )
 ) else (
 some false
 )
 ) else (
 some false
 )
 ) else (
 some false
 )
 ) fun one18 =>
 bif one18 then (
 Option.bind (table_Lookup_g v14.1 (A10.mk 0 30 1 0 0 0 0 0 1 0)) fun v30 =>
 bif v30.Allowed then (
 Option.bind (table_Lookup_g v12.1 (A10.mk 0 0 0 0 0 0 0 0 0 0)) fun v31 =>
 bif (io.not v31.Allowed) then (
 Option.bind (table_Valid_g v14.1) fun v32 =>
 bif v32 then (
 Option.bind (table_Valid_g (Table.mk [] [])) fun v33 =>
 some (io.not v33)
 ) else (
 some false
 )
 ) else (
 some false
 )
 ) else (
 some false
 )
 ) else (
 some false
 )
 )
end Go.SX.Td
namespace Go.SX.Td
open Go Go.SX Go.Proofs
set_option maxRecDepth 100000
def c52r0 : List GOp:=[
 gv 7 (.box 57 (.tmp 3)),
 gv 8 (.alloc 36 (.agg #[oz,(.string ⟨#[]⟩),(.slice none 0 0),oz,oz,oz,oz,oz]))]
def c52r1 : List GOp:=[
 gv 10 (.build (.agg #[oz,oz]) [((1,1),(.const (.int .i64 1)))]),
 gv 9 (.alloc 34 (.agg #[oz,oz])),
 ⟨none,.store 2 (.tmp 9) (.tmp 10),none⟩]
def c52r2 : List GOp:=[
 gv 11 (.mv (.tmp 0)),
 gv 12 (.mv (.tmp 1)),
 gv 13 (.load 20 true (.tmp 7)),
 gv 14 (.bslice 57 20 1 (.agg #[oz,oz,oz,oz,oz,oz,oz,oz,oz,oz,oz,oz,oz,oz,oz,oz,oz,oz,oz,oz]) [(0,(.tmp 13))]),
 gv 15 (.mv (.tmp 2)),
 gv 16 (.load 2 true (.tmp 9)),
 gv 17 (.load 2 true (.tmp 9)),
 gv 18 (.build (.agg #[oz,(.string ⟨#[]⟩),(.slice none 0 0),oz,oz,oz,oz,oz]) [((0,1),(.tmp 11)),((1,1),(.tmp 12)),((2,1),(.tmp 14)),((3,1),(.tmp 15)),((4,2),(.tmp 16)),((6,2),(.tmp 17))]),
 ⟨none,.store 8 (.tmp 8) (.tmp 18),none⟩]
def c52 : EFn:=⟨19,.seq (.reg c52r0) (.seq (.reg c52r1) (.seq (.reg c52r2) (.ret))),[.cell 8 8 true]⟩
theorem c52_ok : compF Tryd.prog 52=some c52.er:=by kernel_rfl
set_option maxHeartbeats 4000000 in
theorem law14_rule_R {P:Program}(hP:P=Tryd.prog)(kind:Int)(name:ByteArray)(n:Int)(z_:(A10 Range))(r:Rule)(h:law14_rule_g kind name n z_=some r):Fn1 P 52 [vIi64 kind,vS name,vIi64 n,vA10Range z_] (vRule r):=by
 refine .walkE (hP▸c52_ok) fun K hK=>?_;unfold law14_rule_g at h;cbv;refine .g (e:=eA10Range) h (W_cons aw_ (W_nil' _)) fun l1 h=>?_;cbv;obtain rfl:=oj h;exact hK _ _ aw_
end Go.SX.Td
namespace Go.SX.Td
open Go Go.SX Go.Proofs
set_option maxRecDepth 100000
def c53r0 : List GOp:=[
 gv 3 (.box 55 (.tmp 1)),
 gv 4 (.alloc 57 (.agg #[oz,oz,oz,oz,oz,oz,oz,oz,oz,oz,oz,oz,oz,oz,oz,oz,oz,oz,oz,oz]))]
def c53r1 : List GOp:=[
 gv 6 (.call 26 []),
 gv 5 (.alloc 57 (.agg #[oz,oz,oz,oz,oz,oz,oz,oz,oz,oz,oz,oz,oz,oz,oz,oz,oz,oz,oz,oz])),
 ⟨none,.store 20 (.tmp 5) (.tmp 6),none⟩]
def c53r2 : List GOp:=[
 gv 7 (.mv (.tmp 0)),
 gv 8 (.load 2 true (.tmp 3)),
 gv 9 (.idxP 10 2 (.tmp 5) (.tmp 7)),
 ⟨none,.store 2 (.tmp 9) (.tmp 8),none⟩]
def c53r3 : List GOp:=[
 gv 10 (.load 20 true (.tmp 5)),
 ⟨none,.store 20 (.tmp 4) (.tmp 10),none⟩]
def c53 : EFn:=⟨11,.seq (.reg c53r0) (.seq (.reg c53r1) (.join (.reg c53r2) (.seq (.reg c53r3) (.ret)))),[.cell 4 20 true]⟩
theorem c53_ok : compF Tryd.prog 53=some c53.er:=by kernel_rfl
set_option maxHeartbeats 4000000 in
theorem law14_all_R {P:Program}(hP:P=Tryd.prog)(attr:Int)(r_:Range)(r:(A10 Range))(h:law14_all_g attr r_=some r):Fn1 P 53 [vIi64 attr,vRange r_] (vA10Range r):=by
 refine .walkE (hP▸c53_ok) fun K hK=>?_;unfold law14_all_g at h;cbv;refine .g h (fun v hv=>resolve_Limits_R hP v hv) aw_ rfl (fun _=>rfl) fun v1 h=>?_;cbv;refine .g h (fun (z2:(A10 Range))=>rp 4 .top++[.ptr 0 0,.ptr 1 0]++rp 5 .top) (fun z2=>[.cells [oi 0,oi 0,oi 0,oi 0,oi 0,oi 0,oi 0,oi 0,oi 0,oi 0,oi 0,oi 0,oi 0,oi 0,oi 0,oi 0,oi 0,oi 0,oi 0,oi 0] 57,.cells (cR z2) 57]) (fun y hm Kn1 hKn1=>?_) fun t h=>?_
 ·have h:=hm;clear hm;cbv
  refine .c10 h ?_ ?_ ?_ ?_ ?_ ?_ ?_ ?_ ?_ ?_<;>(
   intro hni3 h;cbv;obtain rfl:=oj h;refine hKn1 _ _ _ rfl (.nz (.mtE [1,2] ?_));(cbv;repeat (refine⟨an_,?_⟩;cbv))
   )
 obtain⟨z2,rfl⟩:=ez t;cbv;obtain rfl:=oj h;exact hK _ _ aw_
end Go.SX.Td
namespace Go.SX.Td
open Go Go.SX Go.Proofs
set_option maxRecDepth 100000
def c22r0 : List GOp:=[
 gv 0 (.mv (.const (.bool false)))]
def c22r1 : List GOp:=[
 gv 17 (.call 26 []),
 gv 1 (.alloc 57 (.agg #[oz,oz,oz,oz,oz,oz,oz,oz,oz,oz,oz,oz,oz,oz,oz,oz,oz,oz,oz,oz])),
 ⟨none,.store 20 (.tmp 1) (.tmp 17),none⟩]
def c22r2 : List GOp:=[
 gv 18 (.build (.agg #[oz,oz]) [((0,1),(.const (.int .i64 1))),((1,1),(.const (.int .i64 1)))]),
 gv 19 (.call 53 [(.const (.int .i64 2)),(.tmp 18)]),
 gv 20 (.call 52 [(.const (.int .i64 1)),(.const (.string ⟨#[97]⟩)),(.const (.int .i64 0)),(.tmp 19)]),
 gv 2 (.alloc 36 (.agg #[oz,(.string ⟨#[]⟩),(.slice none 0 0),oz,oz,oz,oz,oz])),
 ⟨none,.store 8 (.tmp 2) (.tmp 20),none⟩]
def c22r3 : List GOp:=[
 gv 21 (.load 20 true (.tmp 1)),
 gv 22 (.call 52 [(.const (.int .i64 3)),(.const (.string ⟨#[112]⟩)),(.const (.int .i64 100)),(.tmp 21)]),
 gv 3 (.alloc 36 (.agg #[oz,(.string ⟨#[]⟩),(.slice none 0 0),oz,oz,oz,oz,oz])),
 ⟨none,.store 8 (.tmp 3) (.tmp 22),none⟩]
def c22r4 : List GOp:=[
 gv 23 (.build (.agg #[oz,oz]) [((1,1),(.const (.int .i64 17)))]),
 gv 24 (.call 53 [(.const (.int .i64 1)),(.tmp 23)]),
 gv 25 (.call 52 [(.const (.int .i64 2)),(.const (.string ⟨#[100]⟩)),(.const (.int .i64 0)),(.tmp 24)]),
 gv 4 (.alloc 36 (.agg #[oz,(.string ⟨#[]⟩),(.slice none 0 0),oz,oz,oz,oz,oz])),
 ⟨none,.store 8 (.tmp 4) (.tmp 25),none⟩]
def c22r5 : List GOp:=[
 gv 27 (.build (.agg #[(.slice none 0 0)]) []),
 gv 28 (.call 24 [(.tmp 27)]),
 gv 26 (.mv (.tmp 28)),
 gv 29 (.ext (.tmp 26) 0),
 gv 30 (.ext (.tmp 26) 1),
 gv 5 (.alloc 28 (.agg #[(.slice none 0 0),(.slice none 0 0)])),
 ⟨none,.store 2 (.tmp 5) (.tmp 29),none⟩,
 gv 6 (.mv (.tmp 30))]
def c22r6 : List GOp:=[
 gv 32 (.load 20 true (.tmp 1)),
 gv 33 (.call 52 [(.const (.int .i64 1)),(.const (.string ⟨#[97]⟩)),(.const (.int .i64 0)),(.tmp 32)]),
 gv 34 (.load 8 true (.tmp 3)),
 gv 35 (.bslice 36 8 2 (.agg #[oz,(.string ⟨#[]⟩),(.slice none 0 0),oz,oz,oz,oz,oz]) [(0,(.tmp 33)),(1,(.tmp 34))]),
 gv 36 (.build (.agg #[(.slice none 0 0)]) [((0,1),(.tmp 35))]),
 gv 37 (.call 24 [(.tmp 36)]),
 gv 31 (.mv (.tmp 37)),
 gv 38 (.ext (.tmp 31) 0),
 gv 39 (.ext (.tmp 31) 1),
 gv 7 (.alloc 28 (.agg #[(.slice none 0 0),(.slice none 0 0)])),
 ⟨none,.store 2 (.tmp 7) (.tmp 38),none⟩,
 gv 8 (.mv (.tmp 39))]
def c22r7 : List GOp:=[
 gv 41 (.load 8 true (.tmp 2)),
 gv 42 (.load 8 true (.tmp 3)),
 gv 43 (.bslice 36 8 2 (.agg #[oz,(.string ⟨#[]⟩),(.slice none 0 0),oz,oz,oz,oz,oz]) [(0,(.tmp 41)),(1,(.tmp 42))]),
 gv 44 (.build (.agg #[(.slice none 0 0)]) [((0,1),(.tmp 43))]),
 gv 45 (.call 24 [(.tmp 44)]),
 gv 40 (.mv (.tmp 45)),
 gv 46 (.ext (.tmp 40) 0),
 gv 47 (.ext (.tmp 40) 1),
 gv 9 (.alloc 28 (.agg #[(.slice none 0 0),(.slice none 0 0)])),
 ⟨none,.store 2 (.tmp 9) (.tmp 46),none⟩,
 gv 10 (.mv (.tmp 47))]
def c22r8 : List GOp:=[
 gv 49 (.load 8 true (.tmp 2)),
 gv 50 (.load 8 true (.tmp 3)),
 gv 51 (.load 8 true (.tmp 4)),
 gv 52 (.bslice 36 8 3 (.agg #[oz,(.string ⟨#[]⟩),(.slice none 0 0),oz,oz,oz,oz,oz]) [(0,(.tmp 49)),(1,(.tmp 50)),(2,(.tmp 51))]),
 gv 53 (.build (.agg #[(.slice none 0 0)]) [((0,1),(.tmp 52))]),
 gv 54 (.call 24 [(.tmp 53)]),
 gv 48 (.mv (.tmp 54)),
 gv 55 (.ext (.tmp 48) 0),
 gv 56 (.ext (.tmp 48) 1),
 gv 11 (.alloc 28 (.agg #[(.slice none 0 0),(.slice none 0 0)])),
 ⟨none,.store 2 (.tmp 11) (.tmp 55),none⟩,
 gv 12 (.mv (.tmp 56))]
def c22r9 : List GOp:=[
 gv 58 (.build (.agg #[oz,(.string ⟨#[]⟩),(.slice none 0 0),oz,oz,oz,oz,oz]) []),
 gv 59 (.bslice 36 8 1 (.agg #[oz,(.string ⟨#[]⟩),(.slice none 0 0),oz,oz,oz,oz,oz]) [(0,(.tmp 58))]),
 gv 60 (.build (.agg #[(.slice none 0 0)]) [((0,1),(.tmp 59))]),
 gv 61 (.call 24 [(.tmp 60)]),
 gv 57 (.mv (.tmp 61)),
 gv 62 (.ext (.tmp 57) 0),
 gv 63 (.ext (.tmp 57) 1),
 gv 13 (.alloc 28 (.agg #[(.slice none 0 0),(.slice none 0 0)])),
 ⟨none,.store 2 (.tmp 13) (.tmp 62),none⟩,
 gv 14 (.mv (.tmp 63))]
def c22r10 : List GOp:=[
 gv 64 (.mv (.tmp 6)),
 gv 65 (.bin .neq (.tmp 64) (.const (.int .i64 0))),
 gv 66 (.mv (.tmp 65)),
 gw 67 66 false (.mv (.tmp 8)),
 gw 68 66 false (.bin .neq (.tmp 67) (.const (.int .i64 0))),
 gv 69 (.pick (.tmp 66) (.const (.bool true)) (.tmp 68)),
 gv 70 (.mv (.tmp 69)),
 gw 71 70 false (.mv (.tmp 10)),
 gw 72 70 false (.bin .neq (.tmp 71) (.const (.int .i64 0))),
 gv 73 (.pick (.tmp 70) (.const (.bool true)) (.tmp 72)),
 gv 74 (.mv (.tmp 73)),
 gw 75 74 false (.mv (.tmp 12)),
 gw 76 74 false (.bin .neq (.tmp 75) (.const (.int .i64 0))),
 gv 77 (.pick (.tmp 74) (.const (.bool true)) (.tmp 76)),
 gv 78 (.mv (.tmp 77)),
 gw 79 78 false (.mv (.tmp 14)),
 gw 80 78 false (.bin .neq (.tmp 79) (.const (.int .i64 1))),
 gv 81 (.pick (.tmp 78) (.const (.bool true)) (.tmp 80)),
 gv 82 (.mv (.tmp 81)),
 gw 83 82 false (.fadd 0 (.tmp 5)),
 gw 84 82 false (.load 1 false (.tmp 83)),
 gw 85 82 false (.len false (.tmp 84)),
 gw 86 82 false (.bin .neq (.tmp 85) (.const (.int .i64 1))),
 gv 87 (.pick (.tmp 82) (.const (.bool true)) (.tmp 86)),
 gv 88 (.mv (.tmp 87)),
 gw 89 88 false (.fadd 0 (.tmp 7)),
 gw 90 88 false (.load 1 false (.tmp 89)),
 gw 91 88 false (.len false (.tmp 90)),
 gw 92 88 false (.bin .neq (.tmp 91) (.const (.int .i64 1))),
 gv 93 (.pick (.tmp 88) (.const (.bool true)) (.tmp 92)),
 gv 94 (.mv (.tmp 93)),
 gw 95 94 false (.fadd 0 (.tmp 9)),
 gw 96 94 false (.load 1 false (.tmp 95)),
 gw 97 94 false (.len false (.tmp 96)),
 gw 98 94 false (.bin .neq (.tmp 97) (.const (.int .i64 3))),
 gv 99 (.pick (.tmp 94) (.const (.bool true)) (.tmp 98)),
 gv 100 (.mv (.tmp 99)),
 gw 101 100 false (.fadd 0 (.tmp 11)),
 gw 102 100 false (.load 1 false (.tmp 101)),
 gw 103 100 false (.len false (.tmp 102)),
 gw 104 100 false (.bin .neq (.tmp 103) (.const (.int .i64 5))),
 gv 105 (.pick (.tmp 100) (.const (.bool true)) (.tmp 104))]
def c22r11 : List GOp:=[
 gv 0 (.mv (.const (.bool false)))]
def c22r12 : List GOp:=[
 gv 106 (.fadd 1 (.tmp 5)),
 gv 107 (.load 1 false (.tmp 106)),
 gv 108 (.idxA 16 (.tmp 107) (.const (.int .i64 0))),
 gv 109 (.fadd 0 (.tmp 108)),
 gv 110 (.load 1 false (.tmp 109)),
 gv 111 (.un .not (.tmp 110)),
 gv 112 (.mv (.tmp 111)),
 gw 113 112 true (.fadd 1 (.tmp 7)),
 gw 114 112 true (.load 1 false (.tmp 113)),
 gw 115 112 true (.idxA 16 (.tmp 114) (.const (.int .i64 0))),
 gw 116 112 true (.fadd 0 (.tmp 115)),
 gw 117 112 true (.load 1 false (.tmp 116)),
 gv 118 (.pick (.tmp 112) (.tmp 117) (.const (.bool false))),
 gv 119 (.mv (.tmp 118)),
 gw 120 119 true (.fadd 1 (.tmp 7)),
 gw 121 119 true (.load 1 false (.tmp 120)),
 gw 122 119 true (.idxA 16 (.tmp 121) (.const (.int .i64 0))),
 gw 123 119 true (.fadd 4 (.tmp 122)),
 gw 124 119 true (.load 1 false (.tmp 123)),
 gw 125 119 true (.bin .eql (.tmp 124) (.const (.int .i64 100))),
 gv 126 (.pick (.tmp 119) (.tmp 125) (.const (.bool false))),
 gv 127 (.mv (.tmp 126)),
 gw 128 127 true (.fadd 0 (.tmp 9)),
 gw 129 127 true (.load 1 false (.tmp 128)),
 gw 130 127 true (.idxA 4 (.tmp 129) (.const (.int .i64 0))),
 gw 131 127 true (.load 4 true (.tmp 130)),
 gw 132 127 true (.bslice 3 1 1 oz [(0,(.const (.int .i64 1)))]),
 gw 133 127 true (.bslice 3 1 2 oz [(0,(.const (.int .i64 1))),(1,(.const (.int .i64 2)))]),
 gw 134 127 true (.build (.agg #[oz,(.slice none 0 0),(.slice none 0 0),oz]) [((0,1),(.const (.int .i64 2))),((1,1),(.tmp 132)),((2,1),(.tmp 133))]),
 gw 135 127 true (.call 54 [(.tmp 131),(.tmp 134)]),
 gv 136 (.pick (.tmp 127) (.tmp 135) (.const (.bool false))),
 gv 137 (.mv (.tmp 136)),
 gw 138 137 true (.fadd 0 (.tmp 11)),
 gw 139 137 true (.load 1 false (.tmp 138)),
 gw 140 137 true (.idxA 4 (.tmp 139) (.const (.int .i64 0))),
 gw 141 137 true (.load 4 true (.tmp 140)),
 gw 142 137 true (.bslice 3 1 1 oz [(0,(.const (.int .i64 18)))]),
 gw 143 137 true (.bslice 3 1 2 oz [(0,(.const (.int .i64 1))),(1,(.const (.int .i64 2)))]),
 gw 144 137 true (.build (.agg #[oz,(.slice none 0 0),(.slice none 0 0),oz]) [((0,1),(.const (.int .i64 1))),((1,1),(.tmp 142)),((2,1),(.tmp 143))]),
 gw 145 137 true (.call 54 [(.tmp 141),(.tmp 144)]),
 gv 146 (.pick (.tmp 137) (.tmp 145) (.const (.bool false))),
 gv 15 (.mv (.tmp 146))]
def c22r13 : List GOp:=[
 gv 147 (.build (.agg #[oz,oz,oz,oz,oz,oz,oz,oz,oz,oz]) [((1,1),(.const (.int .i64 30))),((2,1),(.const (.int .i64 1))),((8,1),(.const (.int .i64 1)))]),
 gv 16 (.alloc 38 (.agg #[oz,oz,oz,oz,oz,oz,oz,oz,oz,oz])),
 ⟨none,.store 10 (.tmp 16) (.tmp 147),none⟩]
def c22r14 : List GOp:=[
 gv 148 (.mv (.tmp 15)),
 gv 149 (.mv (.tmp 148)),
 gw 150 149 true (.load 2 true (.tmp 11)),
 gw 151 149 true (.load 10 true (.tmp 16)),
 gw 152 149 true (.call 20 [(.tmp 150),(.tmp 151)]),
 gw 153 149 true (.fld 0 1 false (.tmp 152)),
 gv 154 (.pick (.tmp 149) (.tmp 153) (.const (.bool false))),
 gv 155 (.mv (.tmp 154)),
 gw 156 155 true (.load 2 true (.tmp 9)),
 gw 157 155 true (.build (.agg #[oz,oz,oz,oz,oz,oz,oz,oz,oz,oz]) []),
 gw 158 155 true (.call 20 [(.tmp 156),(.tmp 157)]),
 gw 159 155 true (.fld 0 1 false (.tmp 158)),
 gw 160 155 true (.un .not (.tmp 159)),
 gv 161 (.pick (.tmp 155) (.tmp 160) (.const (.bool false))),
 gv 162 (.mv (.tmp 161)),
 gw 163 162 true (.load 2 true (.tmp 11)),
 gw 164 162 true (.call 17 [(.tmp 163)]),
 gv 165 (.pick (.tmp 162) (.tmp 164) (.const (.bool false))),
 gv 166 (.mv (.tmp 165)),
 gw 167 166 true (.build (.agg #[(.slice none 0 0),(.slice none 0 0)]) []),
 gw 168 166 true (.call 17 [(.tmp 167)]),
 gw 169 166 true (.un .not (.tmp 168)),
 gv 170 (.pick (.tmp 166) (.tmp 169) (.const (.bool false))),
 gv 0 (.mv (.tmp 170))]
def c22 : EFn:=⟨171,.seq (.reg c22r0) (.seq (.reg c22r1) (.seq (.reg c22r2) (.seq (.reg c22r3) (.seq (.reg c22r4) (.seq (.reg c22r5) (.seq (.par false false false 11 c22r6) (.seq (.reg c22r7) (.seq (.reg c22r8) (.seq (.reg c22r9) (.seq (.join (.reg c22r10) (.cond (.tmp 105) (.seq (.reg c22r11) (.ret)) (.skip))) (.join (.reg c22r12) (.seq (.reg c22r13) (.seq (.reg c22r14) (.ret)))))))))))))),[.tmp 0]⟩
theorem c22_ok : compF Tryd.prog 22=some c22.er:=by kernel_rfl
set_option maxHeartbeats 4000000 in
theorem law14_head_R {P:Program}(hP:P=Tryd.prog)(r:Bool)(h:law14_head_g=some r):Fn1 P 22 [] (vB r):=by
 refine .walkE (hP▸c22_ok) fun K hK=>?_;unfold law14_head_g at h;cbv;refine .g h (fun v hv=>resolve_Limits_R hP v hv) aw_ rfl (fun _=>rfl) fun v1 h=>?_;cbv;refine .g h (fun v hv=>law14_all_R hP _ _ v hv) aw_ rfl (fun _=>rfl) fun v2 h=>?_;cbv;refine .g h (fun v hv=>law14_rule_R hP _ _ _ _ v hv) aw_ rfl (fun _=>rfl) fun v3 h=>?_;cbv;refine .g h (fun v hv=>law14_rule_R hP _ _ _ _ v hv) aw_ rfl (fun _=>rfl) fun v4 h=>?_;cbv;refine .g h (fun v hv=>law14_all_R hP _ _ v hv) aw_ rfl (fun _=>rfl) fun v5 h=>?_;cbv;refine .g h (fun v hv=>law14_rule_R hP _ _ _ _ v hv) aw_ rfl (fun _=>rfl) fun v6 h=>?_;cbv;refine .g h (fun v hv=>table_Build_R hP _ v hv) aw_ rfl (fun _=>rfl) fun v7 h=>?_;cbv;refine .g h (fun v hv=>law14_rule_R hP _ _ _ _ v hv) aw_ rfl (fun _=>rfl) fun v8 h=>?_;cbv;refine .g (e:=eRule) h (W_cons aw_ (W_cons aw_ (W_nil' _))) fun l9 h=>?_;cbv;refine .g h (fun v hv=>table_Build_R hP _ v hv) aw_ rfl (fun _=>rfl) fun v10 h=>?_;cbv;refine .g (e:=eRule) h (W_cons aw_ (W_cons aw_ (W_nil' _))) fun l11 h=>?_;cbv;refine .g h (fun v hv=>table_Build_R hP _ v hv) aw_ rfl (fun _=>rfl) fun v12 h=>?_;cbv;refine .g (e:=eRule) h (W_cons aw_ (W_cons aw_ (W_cons aw_ (W_nil' _)))) fun l13 h=>?_;cbv;refine .g h (fun v hv=>table_Build_R hP _ v hv) aw_ rfl (fun _=>rfl) fun v14 h=>?_;cbv;refine .g (e:=eRule) h (W_cons aw_ (W_nil' _)) fun l15 h=>?_;cbv;refine .g h (fun v hv=>table_Build_R hP _ v hv) aw_ rfl (fun _=>rfl) fun v16 h=>?_;cbv;refine .g h (fun (v17:Bool)=>rp 5 .top++[.ptr 0 0,.top,.ptr 1 0,.top,.ptr 2 0,.top,.ptr 3 0]++rp 93 .top++[ob v17]++rp 65 .top) (fun v17=>[.cells [.d (.sl (W eNode v7.1.Nodes)),.d (.sl (W eDecision v7.1.Leaves))] 28,.cells [.d (.sl (W eNode v10.1.Nodes)),.d (.sl (W eDecision v10.1.Leaves))] 28,.cells [.d (.sl (W eNode v12.1.Nodes)),.d (.sl (W eDecision v12.1.Leaves))] 28,.cells [.d (.sl (W eNode v14.1.Nodes)),.d (.sl (W eDecision v14.1.Leaves))] 28]) (fun y hm Kn1 hKn1=>?_) fun t h=>?_
 ·have h:=hm;clear hm;cbv;refine brkG h ?_ ?_<;>intro h
  ·cbv;obtain rfl:=oj h;refine hKn1 _ _ _ rfl (.nz (.mtE [4,5,7,9] ?_));(cbv;repeat (refine⟨an_,?_⟩;cbv))
  ·cbv;refine brkG h ?_ ?_<;>intro h
   ·cbv;obtain rfl:=oj h;refine hKn1 _ _ _ rfl (.nz (.mtE [4,5,7,9] ?_));(cbv;repeat (refine⟨an_,?_⟩;cbv))
   ·cbv;refine brkG h ?_ ?_<;>intro h
    ·cbv;obtain rfl:=oj h;refine hKn1 _ _ _ rfl (.nz (.mtE [4,5,7,9] ?_));(cbv;repeat (refine⟨an_,?_⟩;cbv))
    ·cbv;refine brkG h ?_ ?_<;>intro h
     ·cbv;obtain rfl:=oj h;refine hKn1 _ _ _ rfl (.nz (.mtE [4,5,7,9] ?_));(cbv;repeat (refine⟨an_,?_⟩;cbv))
     ·cbv;refine brkG h ?_ ?_<;>intro h
      ·cbv;obtain rfl:=oj h;refine hKn1 _ _ _ rfl (.nz (.mtE [4,5,7,9] ?_));(cbv;repeat (refine⟨an_,?_⟩;cbv))
      ·cbv;refine brkG h ?_ ?_<;>intro h
       ·cbv;obtain rfl:=oj h;refine hKn1 _ _ _ rfl (.nz (.mtE [4,5,7,9] ?_));(cbv;repeat (refine⟨an_,?_⟩;cbv))
       ·cbv;refine brkG h ?_ ?_<;>intro h
        ·cbv;obtain rfl:=oj h;refine hKn1 _ _ _ rfl (.nz (.mtE [4,5,7,9] ?_));(cbv;repeat (refine⟨an_,?_⟩;cbv))
        ·cbv;refine brkG h ?_ ?_<;>intro h
         ·cbv;obtain rfl:=oj h;refine hKn1 _ _ _ rfl (.nz (.mtE [4,5,7,9] ?_));(cbv;repeat (refine⟨an_,?_⟩;cbv))
         ·cbv;obtain rfl:=oj h;refine hKn1 _ _ _ rfl (.nz (.mtE [4,5,7,9] ?_));(cbv;repeat (refine⟨an_,?_⟩;cbv))
 obtain⟨v17,rfl⟩:=ez t;cbv;refine brkG h ?_ ?_<;>intro h
 ·cbv;obtain rfl:=oj h;exact hK _ _ aw_
 ·cbv;refine .g h (fun (one18:Bool)=>rp 9 .top++[.ptr 0 0,.top,.ptr 1 0]++rp 3 .top++[ob one18]++rp 155 .top) (fun one18=>[.cells [.d (.sl (W eNode v12.1.Nodes)),.d (.sl (W eDecision v12.1.Leaves))] 28,.cells [.d (.sl (W eNode v14.1.Nodes)),.d (.sl (W eDecision v14.1.Leaves))] 28]) (fun y hm Kn1 hKn1=>?_) fun t h=>?_
  ·have h:=hm;clear hm;cbv;refine .g h (fun _=>rfl) fun x19 h=>?_;cbv;refine brkG h ?_ ?_<;>intro h
   ·cbv;refine .g h (fun _=>rfl) fun x20 h=>?_;cbv;refine brkG h ?_ ?_<;>intro h
    ·cbv;refine .g h (fun _=>rfl) fun x21 h=>?_;cbv;refine brkG h ?_ ?_<;>intro h
     ·cbv;refine .g h (fun _=>rfl) fun x22 h=>?_;cbv;refine .g (e:=eIi64) h (W_cons aw_ (W_nil' _)) fun l23 h=>?_;cbv;refine .g (e:=eIi64) h (W_cons aw_ (W_cons aw_ (W_nil' _))) fun l24 h=>?_;cbv;refine .gl [] h (fun v hv=>ref14_Equal_R hP _ _ v hv) aw_ rfl fun v25 h=>?_;cbv;refine brkG h ?_ ?_<;>intro h
      ·cbv;refine .g h (fun _=>rfl) fun x26 h=>?_;cbv;refine .g (e:=eIi64) h (W_cons aw_ (W_nil' _)) fun l27 h=>?_;cbv;refine .g (e:=eIi64) h (W_cons aw_ (W_cons aw_ (W_nil' _))) fun l28 h=>?_;cbv;refine .gl [] h (fun v hv=>ref14_Equal_R hP _ _ v hv) aw_ rfl fun v29 h=>?_;cbv;obtain rfl:=oj h;refine hKn1 _ _ _ rfl (.nz (.mtE [2,3] ?_));(cbv;repeat (refine⟨an_,?_⟩;cbv))
      ·cbv;obtain rfl:=oj h;refine hKn1 _ _ _ rfl (.nz (.mtE [2,3] ?_));(cbv;repeat (refine⟨an_,?_⟩;cbv))
     ·cbv;obtain rfl:=oj h;refine hKn1 _ _ _ rfl (.nz (.mtE [2,3] ?_));(cbv;repeat (refine⟨an_,?_⟩;cbv))
    ·cbv;obtain rfl:=oj h;refine hKn1 _ _ _ rfl (.nz (.mtE [2,3] ?_));(cbv;repeat (refine⟨an_,?_⟩;cbv))
   ·cbv;obtain rfl:=oj h;refine hKn1 _ _ _ rfl (.nz (.mtE [2,3] ?_));(cbv;repeat (refine⟨an_,?_⟩;cbv))
  obtain⟨one18,rfl⟩:=ez t;cbv;refine brkG h ?_ ?_<;>intro h
  ·cbv;refine .g h (fun v hv=>table_Lookup_R hP _ _ v hv) aw_ rfl (fun _=>rfl) fun v30 h=>?_;cbv;refine brkG h ?_ ?_<;>intro h
   ·cbv;refine .g h (fun v hv=>table_Lookup_R hP _ _ v hv) aw_ rfl (fun _=>rfl) fun v31 h=>?_;cbv;refine brkG h ?_ ?_<;>intro h
    ·cbv;refine .g h (fun v hv=>table_Valid_R hP _ v hv) aw_ rfl (fun _=>rfl) fun v32 h=>?_;cbv;refine brkG h ?_ ?_<;>intro h
     ·cbv;refine .g h (fun v hv=>table_Valid_R hP _ v hv) aw_ rfl (fun _=>rfl) fun v33 h=>?_;cbv;obtain rfl:=oj h;exact hK _ _ aw_
     ·cbv;obtain rfl:=oj h;exact hK _ _ aw_
    ·cbv;obtain rfl:=oj h;exact hK _ _ aw_
   ·cbv;obtain rfl:=oj h;exact hK _ _ aw_
  ·cbv;obtain rfl:=oj h;exact hK _ _ aw_
end Go.SX.Td
namespace Go.SX.Td
open Go Go.SX Go.Proofs
set_option maxRecDepth 100000
noncomputable def law14_TableOne_l2 (x5:Rule):((List (A10 Range))×Int)→Option (((List (A10 Range))×Int) ⊕ ((List (A10 Range))))
 | (zones7,k8) =>
 bif (io.le 0 k8) then (
 Option.bind (idxG x5.Zones k8) fun x9 =>
 Option.bind (some [x9]) fun l10 =>
 Option.bind (appG zones7 l10) fun zones11 =>
 some (.inl (zones11,(io.ar .sub .i64 k8 1)))
 ) else (
 some (.inr zones7)
 )
noncomputable def law14_TableOne_l4 (p:Policy)(up1:Bool):Int→Option ((Int) ⊕ ((Unit) ⊕ (Bool)))
 | k34 =>
 bif (io.lt k34 (io.len (W eRule p.Rules))) then (
 Option.bind (idxG p.Rules k34) fun x35 =>
 bif (io.seq x35.Name (⟨#[90,95,110,111,95,111,116,104,101,114,95,114,117,108,101,95,104,97,115,95,116,104,105,115]⟩)) then (
 some (.inr (.inr up1))
 ) else (
 some (.inl (io.ar .add .i64 k34 1))
 )
 ) else (
 some (.inr (.inl ()))
 )
noncomputable def law14_TableOne_g (p:Policy)(which:Int)(attr:Int)(at_:Int):Option (Bool) :=
 Option.bind (law14_head_g) fun up1 =>
 Option.bind (
 Option.bind (ref14_Few_g p) fun v3 =>
 bif (io.not v3) then (
 some true
 ) else (
 some (io.eq (io.len (W eRule p.Rules)) 0)
 )
 ) fun v2 =>
 bif v2 then (
 some up1
 ) else (
 Option.bind (table_Build_g p) fun v4 =>
 bif (io.not (io.eq v4.2 0)) then (
 some up1
 ) else (
 Option.bind (divG (io.len (W eRule p.Rules))) fun _ =>
 Option.bind (idxG p.Rules (io.rem (io.wrap .i64 which) (io.len (W eRule p.Rules)))) fun x5 =>
 Option.bind (
 whileG (law14_TableOne_l2 x5) ([],(io.ar .sub .i64 (io.len (W eA10Range x5.Zones)) 1))
 ) fun zones6 =>
 Option.bind (
 bif (io.lt 0 (io.len (W eA10Range zones6))) then (
 Option.bind (divG 10) fun _ =>
 Option.bind (rixG zones6 0) fun i13 =>
 Option.bind (zones6[i13]?) fun v14 =>
 Option.bind (rixG zones6 0) fun i15 =>
 Option.bind (zones6[i15]?) fun v16 =>
 Option.bind (
 Option.bind (
 Option.bind (pixG 10 (io.rem (io.wrap .i64 attr) 10)) fun i20 =>
 bif (io.le (v14.get i20).Lo at_) then (
 some (io.lt at_ (v14.get i20).Hi)
 ) else (
 some false
 )
 ) fun v19 =>
 bif v19 then (
 Option.bind (
 Option.bind (pixG 10 (io.rem (io.wrap .i64 attr) 10)) fun i22 =>
 some (v14.put i22 (Range.mk (v14.get i22).Lo at_))
 ) fun low21 =>
 Option.bind (pixG 10 (io.rem (io.wrap .i64 attr) 10)) fun i23 =>
 some (low21,(v16.put i23 (Range.mk (io.ar .add .i64 at_ 1) (v16.get i23).Hi)))
 ) else (
 some (v14,v16)
 )
 ) fun (low17,high18) =>
 Option.bind (some [high18,low17]) fun l24 =>
 Option.bind (appG zones6 l24) fun zones25 =>
 Option.bind (subG zones25 1 (io.len (W eA10Range zones25))) fun l26 =>
 some l26
 ) else (
 some zones6
 )
 ) fun zones12 =>
 Option.bind (some ([]:List Rule)) fun l27 =>
 Option.bind (appG l27 p.Rules) fun l28 =>
 Option.bind (rixG l28 (io.rem (io.wrap .i64 which) (io.len (W eRule p.Rules)))) fun i29 =>
 Option.bind (updG l28 i29 fun y30=>(Rule.mk x5.Kind x5.Name zones12 x5.N x5.R x5.S)) fun l31 =>
 Option.bind (some [(Rule.mk 7 (⟨#[90,95,110,111,95,111,116,104,101,114,95,114,117,108,101,95,104,97,115,95,116,104,105,115]⟩) [] 0 (Ratio.mk 0 0) (Ratio.mk 0 0))]) fun l32 =>
 Option.bind (appG l31 l32) fun l33 =>
 orR (
 whileG (law14_TableOne_l4 p up1) 0
 ) fun _ =>
 Option.bind (table_Build_g (Policy.mk l33)) fun v36 =>
 bif up1 then (
 bif (io.eq v36.2 0) then (
 Option.bind (ref14_Same_g v4.1 v36.1) fun v37 =>
 some v37
 ) else (
 some false
 )
 ) else (
 some false
 )
 )
 )
end Go.SX.Td
