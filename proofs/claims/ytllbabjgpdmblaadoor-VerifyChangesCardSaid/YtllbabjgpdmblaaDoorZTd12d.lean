/- Parts of the proof. -/
import Derived.Test.YtllbabjgpdmblaaDoorZTdT
import Derived.Test.YtllbabjgpdmblaaDoorZTdCompact
import Derived.Test.YtllbabjgpdmblaaDoorZTd18d
import Derived.Test.YtllbabjgpdmblaaDoorZTd20d
import Derived.Test.YtllbabjgpdmblaaDoorZTd21d
import Derived.Test.YtllbabjgpdmblaaDoorZTdSbuildd
import Derived.Test.YtllbabjgpdmblaaDoorZTdSdiff
import Derived.Test.YtllbabjgpdmblaaDoorZTd13
import Derived.Test.YtllbabjgpdmblaaDoorZTdSwalkT
set_option linter.unusedSimpArgs false
set_option linter.unusedVariables false
set_option linter.unusedSectionVars false
namespace Go.SX.Td
open Go Go.SX Go.Proofs
set_option maxRecDepth 100000
noncomputable def law15_VerifyChanges_g (p:Policy)(raw:Int)(f:(A10 Int)):Option (Bool) :=
 Option.bind (law15_head_g) fun up1 =>
 Option.bind (
 Option.bind (ref14_Few_g p) fun v3 =>
 bif (io.not v3) then (
 some true
 ) else (
 Option.bind (ref14_Within_g f) fun v4 =>
 some (io.not v4)
 )
 ) fun v2 =>
 bif v2 then (
 some up1
 ) else (
 Option.bind (table_Build_g p) fun v5 =>
 Option.bind (
 bif (io.not (io.eq v5.2 0)) then (
 some true
 ) else (
 some (io.eq (io.len (W eDecision v5.1.Leaves)) 0)
 )
 ) fun v6 =>
 bif v6 then (
 bif up1 then (
 some (io.not (io.eq v5.2 0))
 ) else (
 some false
 )
 ) else (
 Option.bind (divG (io.len (W eDecision v5.1.Leaves))) fun _ =>
 Option.bind (some ([]:List Decision)) fun l7 =>
 Option.bind (appG l7 v5.1.Leaves) fun l8 =>
 Option.bind (rixG l8 (io.rem (io.wrap .i64 raw) (io.len (W eDecision v5.1.Leaves)))) fun i9 =>
 Option.bind (updG l8 i9 fun y10=>(Decision.mk y10.Allowed y10.Together y10.Single y10.Limit (-1) y10.Fee y10.Tax y10.Cap y10.Share y10.Refund y10.By)) fun l11 =>
 Option.bind (verify_Differ_g p (Table.mk v5.1.Nodes l11)) fun v12 =>
 Option.bind (
 bif (io.not v12.2) then (
 some true
 ) else (
 Option.bind (table_Lookup_g v5.1 v12.1) fun v14 =>
 Option.bind (idxG v5.1.Leaves (io.rem (io.wrap .i64 raw) (io.len (W eDecision v5.1.Leaves)))) fun x15 =>
 bif (io.not (qDecision v14 x15)) then (
 some true
 ) else (
 Option.bind (table_Lookup_g (Table.mk v5.1.Nodes l11) v12.1) fun v16 =>
 Option.bind (idxG l11 (io.rem (io.wrap .i64 raw) (io.len (W eDecision v5.1.Leaves)))) fun x17 =>
 some (io.not (qDecision v16 x17))
 )
 )
 ) fun v13 =>
 bif v13 then (
 some false
 ) else (
 bif up1 then (
 Option.bind (ref15_Less_g f v12.1) fun v18 =>
 bif (io.not v18) then (
 some true
 ) else (
 Option.bind (table_Lookup_g v5.1 f) fun v19 =>
 Option.bind (idxG v5.1.Leaves (io.rem (io.wrap .i64 raw) (io.len (W eDecision v5.1.Leaves)))) fun x20 =>
 some (io.not (qDecision v19 x20))
 )
 ) else (
 some false
 )
 )
 )
 )
end Go.SX.Td
namespace Go.SX.Td
open Go Go.SX Go.Proofs
set_option maxRecDepth 100000
def c18r0 : List GOp:=[
 gv 1 (.box 38 (.tmp 0)),
 gv 2 (.mv (.const (.bool false)))]
def c18r1 : List GOp:=[
 gv 5 (.call 28 []),
 gv 3 (.alloc 57 (.agg #[oz,oz,oz,oz,oz,oz,oz,oz,oz,oz,oz,oz,oz,oz,oz,oz,oz,oz,oz,oz])),
 ⟨none,.store 20 (.tmp 3) (.tmp 5),none⟩]
def c18r2 : List GOp:=[
 gv 4 (.mv (.const (.int .i64 0)))]
def c18r3 : List GOp:=[
 gv 6 (.mv (.tmp 4)),
 gv 7 (.bin .lss (.tmp 6) (.const (.int .i64 10)))]
def c18r4 : List GOp:=[
 gv 10 (.mv (.tmp 4)),
 gv 11 (.idxP 10 1 (.tmp 1) (.tmp 10)),
 gv 12 (.load 1 false (.tmp 11)),
 gv 13 (.mv (.tmp 4)),
 gv 14 (.idxP 10 2 (.tmp 3) (.tmp 13)),
 gv 15 (.fadd 0 (.tmp 14)),
 gv 16 (.load 1 false (.tmp 15)),
 gv 17 (.bin .lss (.tmp 12) (.tmp 16)),
 gv 18 (.mv (.tmp 17)),
 gw 19 18 false (.mv (.tmp 4)),
 gw 20 18 false (.idxP 10 1 (.tmp 1) (.tmp 19)),
 gw 21 18 false (.load 1 false (.tmp 20)),
 gw 22 18 false (.mv (.tmp 4)),
 gw 23 18 false (.idxP 10 2 (.tmp 3) (.tmp 22)),
 gw 24 18 false (.fadd 1 (.tmp 23)),
 gw 25 18 false (.load 1 false (.tmp 24)),
 gw 26 18 false (.bin .gtr (.tmp 21) (.tmp 25)),
 gv 27 (.pick (.tmp 18) (.const (.bool true)) (.tmp 26))]
def c18r5 : List GOp:=[
 gv 2 (.mv (.const (.bool false)))]
def c18r6 : List GOp:=[
 gv 8 (.mv (.tmp 4)),
 gv 9 (.bin .add (.tmp 8) (.const (.int .i64 1))),
 gv 4 (.mv (.tmp 9))]
def c18l7 : DE:=.seq (.seq (.reg c18r3) (.cond (.tmp 7) (.skip) (.exit 0))) (.seq (.block 1 (.join (.par true true true 16 c18r4) (.cond (.tmp 27) (.seq (.reg c18r5) (.ret)) (.skip)))) (.reg c18r6))
def c18r8 : List GOp:=[
 gv 2 (.mv (.const (.bool true)))]
def c18 : EFn:=⟨28,.seq (.reg c18r0) (.seq (.reg c18r1) (.join (.seq (.reg c18r2) (.block 0 (.loop c18l7))) (.seq (.reg c18r8) (.ret)))),[.tmp 2]⟩
theorem c18_ok : compF Tryd.prog 18=some c18.er:=by kernel_rfl
set_option maxHeartbeats 4000000 in
theorem ref14_Within_R {P:Program}(hP:P=Tryd.prog)(f:(A10 Int))(r:Bool)(h:ref14_Within_g f=some r):Fn1 P 18 [vA10Ii64 f] (vB r):=by
 refine .walkE (hP▸c18_ok) fun K hK=>?_;unfold ref14_Within_g at h;cbv;refine .g h (fun v hv=>ref12_Limits_R hP v hv) aw_ rfl (fun _=>rfl) fun v1 h=>?_;cbv;refine .ga h (fun (_:Unit)=>rp 28 .top) (fun _=>[]) (fun y hm hr1 Kn1 hKn1=>?_) fun t h=>?_
 ·have h:=hm;clear hm;cbv;refine .g h (fun (i2:Int)=>[.top,.ptr 0 0,.top,.ptr 1 0,oi i2]++rp 23 .top) (fun i2=>[.cells (ca f) 38,.cells (cR v1) 57]) (.nz (.mtE [0,1] ?_)) fun s x h hr2 Kn2 hKn2=>?_
  ·(cbv;repeat (refine⟨an_,?_⟩;cbv))
  unfold ref14_Within_l2 at h;obtain⟨i2,rfl⟩:=ez s;cbv;refine brkG h ?_ ?_<;>intro h
  ·cbv;refine .g h (fun (v3:Bool)=>[.top,.ptr 0 0,.top,.ptr 1 0,oi i2]++rp 22 .top++[ob v3]) (fun v3=>[.cells (ca f) 38,.cells (cR v1) 57]) (fun y hm Kn3 hKn3=>?_) fun t h=>?_
   ·have h:=hm;clear hm;cbv
    refine .c10 h ?_ ?_ ?_ ?_ ?_ ?_ ?_ ?_ ?_ ?_<;>(
     intro hni4 h;cbv;refine .at _ hni4 (by decide) ?_;cbv;refine brkG h ?_ ?_<;>intro h
     ·cbv;obtain rfl:=oj h;refine hKn3 _ _ _ rfl (.nz (.mtE [0,1] ?_));(cbv;repeat (refine⟨an_,?_⟩;cbv))
     ·cbv;refine .at _ hni4 (by decide) ?_;cbv;refine .at _ hni4 (by decide) ?_;cbv;obtain rfl:=oj h;refine hKn3 _ _ _ rfl (.nz (.mtE [0,1] ?_));(cbv;repeat (refine⟨an_,?_⟩;cbv))
     )
   obtain⟨v3,rfl⟩:=ez t;cbv;refine brkG h ?_ ?_<;>intro h
   ·cbv;obtain rfl:=oj h;obtain rfl:=hr2 _ rfl;obtain rfl:=hr1 _ rfl;exact hK _ _ aw_
   ·cbv;obtain rfl:=oj h;refine hKn2 _ _ _ rfl (.nz (.mtE [0,1] ?_));(cbv;repeat (refine⟨an_,?_⟩;cbv))
  ·cbv;obtain rfl:=oj h;obtain rfl:=hr2 _ rfl;refine hKn1 _ _ _ rfl (.nz (.mtE [] ?_));(cbv;repeat (refine⟨an_,?_⟩;cbv))
 cbv;obtain rfl:=oj h;exact hK _ _ aw_
end Go.SX.Td
namespace Go.SX.Td
open Go Go.SX Go.Proofs
set_option maxRecDepth 100000
def c21r0 : List GOp:=[
 gv 2 (.box 38 (.tmp 0)),
 gv 3 (.box 38 (.tmp 1)),
 gv 4 (.mv (.const (.bool false)))]
def c21r1 : List GOp:=[
 gv 5 (.mv (.const (.int .i64 0)))]
def c21r2 : List GOp:=[
 gv 6 (.mv (.tmp 5)),
 gv 7 (.bin .lss (.tmp 6) (.const (.int .i64 10)))]
def c21r3 : List GOp:=[
 gv 10 (.mv (.tmp 5)),
 gv 11 (.idxP 10 1 (.tmp 2) (.tmp 10)),
 gv 12 (.load 1 false (.tmp 11)),
 gv 13 (.mv (.tmp 5)),
 gv 14 (.idxP 10 1 (.tmp 3) (.tmp 13)),
 gv 15 (.load 1 false (.tmp 14)),
 gv 16 (.bin .neq (.tmp 12) (.tmp 15))]
def c21r4 : List GOp:=[
 gv 17 (.mv (.tmp 5)),
 gv 18 (.idxP 10 1 (.tmp 2) (.tmp 17)),
 gv 19 (.load 1 false (.tmp 18)),
 gv 20 (.mv (.tmp 5)),
 gv 21 (.idxP 10 1 (.tmp 3) (.tmp 20)),
 gv 22 (.load 1 false (.tmp 21)),
 gv 23 (.bin .lss (.tmp 19) (.tmp 22)),
 gv 4 (.mv (.tmp 23))]
def c21r5 : List GOp:=[
 gv 8 (.mv (.tmp 5)),
 gv 9 (.bin .add (.tmp 8) (.const (.int .i64 1))),
 gv 5 (.mv (.tmp 9))]
def c21l6 : DE:=.seq (.seq (.reg c21r2) (.cond (.tmp 7) (.skip) (.exit 0))) (.seq (.block 1 (.join (.par true true true 6 c21r3) (.cond (.tmp 16) (.seq (.par true true true 6 c21r4) (.ret)) (.skip)))) (.reg c21r5))
def c21r7 : List GOp:=[
 gv 4 (.mv (.const (.bool false)))]
def c21 : EFn:=⟨24,.seq (.reg c21r0) (.join (.seq (.reg c21r1) (.block 0 (.loop c21l6))) (.seq (.reg c21r7) (.ret))),[.tmp 4]⟩
theorem c21_ok : compF Tryd.prog 21=some c21.er:=by kernel_rfl
set_option maxHeartbeats 4000000 in
theorem ref15_Less_R {P:Program}(hP:P=Tryd.prog)(f:(A10 Int))(g:(A10 Int))(r:Bool)(h:ref15_Less_g f g=some r):Fn1 P 21 [vA10Ii64 f,vA10Ii64 g] (vB r):=by
 refine .walkE (hP▸c21_ok) fun K hK=>?_;unfold ref15_Less_g at h;cbv;refine .ga h (fun (_:Unit)=>rp 24 .top) (fun _=>[]) (fun y hm hr1 Kn1 hKn1=>?_) fun t h=>?_
 ·have h:=hm;clear hm;cbv;refine .g h (fun (i1:Int)=>[.top,.top,.ptr 0 0,.ptr 1 0,.top,oi i1]++rp 18 .top) (fun i1=>[.cells (ca f) 38,.cells (ca g) 38]) (.nz (.mtE [0,1] ?_)) fun s x h hr2 Kn2 hKn2=>?_
  ·(cbv;repeat (refine⟨an_,?_⟩;cbv))
  unfold ref15_Less_l2 at h;obtain⟨i1,rfl⟩:=ez s;cbv;refine brkG h ?_ ?_<;>intro h
  ·cbv;refine .g h (fun (v2:Bool)=>[.top,.top,.ptr 0 0,.ptr 1 0,.top,oi i1]++rp 10 .top++[ob v2]++rp 7 .top) (fun v2=>[.cells (ca f) 38,.cells (ca g) 38]) (fun y hm Kn3 hKn3=>?_) fun t h=>?_
   ·have h:=hm;clear hm;cbv
    refine .c10 h ?_ ?_ ?_ ?_ ?_ ?_ ?_ ?_ ?_ ?_<;>(
     intro hni3 h;cbv;refine .at _ hni3 (by decide) ?_;cbv;obtain rfl:=oj h;refine hKn3 _ _ _ rfl (.nz (.mtE [0,1] ?_));(cbv;repeat (refine⟨an_,?_⟩;cbv))
     )
   obtain⟨v2,rfl⟩:=ez t;cbv;refine brkG h ?_ ?_<;>intro h
   ·cbv
    refine .c10 h ?_ ?_ ?_ ?_ ?_ ?_ ?_ ?_ ?_ ?_<;>(
     intro hni4 h;cbv;refine .at _ hni4 (by decide) ?_;cbv;obtain rfl:=oj h;obtain rfl:=hr2 _ rfl;obtain rfl:=hr1 _ rfl;exact hK _ _ aw_
     )
   ·cbv;obtain rfl:=oj h;refine hKn2 _ _ _ rfl (.nz (.mtE [0,1] ?_));(cbv;repeat (refine⟨an_,?_⟩;cbv))
  ·cbv;obtain rfl:=oj h;obtain rfl:=hr2 _ rfl;refine hKn1 _ _ _ rfl (.nz (.mtE [] ?_));(cbv;repeat (refine⟨an_,?_⟩;cbv))
 cbv;obtain rfl:=oj h;exact hK _ _ aw_
end Go.SX.Td
namespace Go.SX.Td
open Go Go.SX Go.Proofs
set_option maxRecDepth 100000
def c12r0 : List GOp:=[
 gv 3 (.box 24 (.tmp 0)),
 gv 5 (.box 38 (.tmp 2)),
 gv 6 (.mv (.const (.bool false)))]
def c12r1 : List GOp:=[
 gv 14 (.call 13 []),
 gv 7 (.mv (.tmp 14))]
def c12r2 : List GOp:=[
 gv 15 (.load 1 true (.tmp 3)),
 gv 16 (.call 23 [(.tmp 15)]),
 gv 17 (.un .not (.tmp 16)),
 gv 18 (.mv (.tmp 17)),
 gw 19 18 false (.load 10 true (.tmp 5)),
 gw 20 18 false (.call 18 [(.tmp 19)]),
 gw 21 18 false (.un .not (.tmp 20)),
 gv 22 (.pick (.tmp 18) (.const (.bool true)) (.tmp 21))]
def c12r3 : List GOp:=[
 gv 23 (.mv (.tmp 7)),
 gv 6 (.mv (.tmp 23))]
def c12r4 : List GOp:=[
 gv 25 (.load 1 true (.tmp 3)),
 gv 26 (.call 24 [(.tmp 25)]),
 gv 24 (.mv (.tmp 26)),
 gv 27 (.ext (.tmp 24) 0),
 gv 28 (.ext (.tmp 24) 1),
 gv 8 (.alloc 28 (.agg #[(.slice none 0 0),(.slice none 0 0)])),
 ⟨none,.store 2 (.tmp 8) (.tmp 27),none⟩,
 gv 9 (.mv (.tmp 28))]
def c12r5 : List GOp:=[
 gv 29 (.mv (.tmp 9)),
 gv 30 (.bin .neq (.tmp 29) (.const (.int .i64 0))),
 gv 31 (.mv (.tmp 30)),
 gw 32 31 false (.fadd 1 (.tmp 8)),
 gw 33 31 false (.load 1 false (.tmp 32)),
 gw 34 31 false (.len false (.tmp 33)),
 gw 35 31 false (.bin .eql (.tmp 34) (.const (.int .i64 0))),
 gv 36 (.pick (.tmp 31) (.const (.bool true)) (.tmp 35))]
def c12r6 : List GOp:=[
 gv 37 (.mv (.tmp 7)),
 gv 38 (.mv (.tmp 37)),
 gw 39 38 true (.mv (.tmp 9)),
 gw 40 38 true (.bin .neq (.tmp 39) (.const (.int .i64 0))),
 gv 41 (.pick (.tmp 38) (.tmp 40) (.const (.bool false))),
 gv 6 (.mv (.tmp 41))]
def c12r7 : List GOp:=[
 gv 42 (.mv (.tmp 1)),
 gv 43 (.cvi .i64 (.tmp 42)),
 gv 44 (.fadd 1 (.tmp 8)),
 gv 45 (.load 1 false (.tmp 44)),
 gv 46 (.len false (.tmp 45)),
 gv 47 (.div .rem (.tmp 43) (.tmp 46)),
 gv 10 (.mv (.tmp 47))]
def c12r8 : List GOp:=[
 gv 48 (.load 2 true (.tmp 8)),
 gv 11 (.alloc 28 (.agg #[(.slice none 0 0),(.slice none 0 0)])),
 ⟨none,.store 2 (.tmp 11) (.tmp 48),none⟩]
def c12r9 : List GOp:=[
 gv 49 (.bslice 45 16 0 (.agg #[(.bool false),(.bool false),(.bool false),oz,oz,oz,oz,oz,oz,oz,oz,oz,oz,oz,oz,oz]) []),
 gv 50 (.fadd 1 (.tmp 8)),
 gv 51 (.load 1 false (.tmp 50)),
 gv 52 (.app 45 16 112 (.agg #[(.bool false),(.bool false),(.bool false),oz,oz,oz,oz,oz,oz,oz,oz,oz,oz,oz,oz,oz]) (.tmp 49) (.tmp 51)),
 gv 53 (.fadd 1 (.tmp 11)),
 ⟨none,.store 1 (.tmp 53) (.tmp 52),none⟩]
def c12r10 : List GOp:=[
 gv 54 (.fadd 1 (.tmp 11)),
 gv 55 (.load 1 false (.tmp 54)),
 gv 56 (.mv (.tmp 10)),
 gv 57 (.idxA 16 (.tmp 55) (.tmp 56)),
 gv 58 (.fadd 4 (.tmp 57)),
 ⟨none,.store 1 (.tmp 58) (.const (.int .i64 (-1))),none⟩]
def c12r11 : List GOp:=[
 gv 60 (.load 1 true (.tmp 3)),
 gv 61 (.load 2 true (.tmp 11)),
 gv 62 (.call 16 [(.tmp 60),(.tmp 61)]),
 gv 59 (.mv (.tmp 62)),
 gv 63 (.ext (.tmp 59) 0),
 gv 64 (.ext (.tmp 59) 1),
 gv 12 (.alloc 38 (.agg #[oz,oz,oz,oz,oz,oz,oz,oz,oz,oz])),
 ⟨none,.store 10 (.tmp 12) (.tmp 63),none⟩,
 gv 13 (.mv (.tmp 64))]
def c12r12 : List GOp:=[
 gv 65 (.mv (.tmp 13)),
 gv 66 (.un .not (.tmp 65)),
 gv 67 (.mv (.tmp 66)),
 gw 68 67 false (.load 2 true (.tmp 8)),
 gw 69 67 false (.load 10 true (.tmp 12)),
 gw 70 67 false (.call 20 [(.tmp 68),(.tmp 69)]),
 gw 71 67 false (.fadd 1 (.tmp 8)),
 gw 72 67 false (.load 1 false (.tmp 71)),
 gw 73 67 false (.mv (.tmp 10)),
 gw 74 67 false (.idxA 16 (.tmp 72) (.tmp 73)),
 gw 75 67 false (.load 16 true (.tmp 74)),
 gw 76 67 false (.beq true [.bool,.bool,.bool,.int,.int,.int,.int,.int,.int,.int,.int,.int,.int,.int,.int,.int] (.tmp 70) (.tmp 75)),
 gv 77 (.pick (.tmp 67) (.const (.bool true)) (.tmp 76)),
 gv 78 (.mv (.tmp 77)),
 gw 79 78 false (.load 2 true (.tmp 11)),
 gw 80 78 false (.load 10 true (.tmp 12)),
 gw 81 78 false (.call 20 [(.tmp 79),(.tmp 80)]),
 gw 82 78 false (.fadd 1 (.tmp 11)),
 gw 83 78 false (.load 1 false (.tmp 82)),
 gw 84 78 false (.mv (.tmp 10)),
 gw 85 78 false (.idxA 16 (.tmp 83) (.tmp 84)),
 gw 86 78 false (.load 16 true (.tmp 85)),
 gw 87 78 false (.beq true [.bool,.bool,.bool,.int,.int,.int,.int,.int,.int,.int,.int,.int,.int,.int,.int,.int] (.tmp 81) (.tmp 86)),
 gv 88 (.pick (.tmp 78) (.const (.bool true)) (.tmp 87))]
def c12r13 : List GOp:=[
 gv 6 (.mv (.const (.bool false)))]
def c12r14 : List GOp:=[
 gv 89 (.mv (.tmp 7)),
 gv 90 (.mv (.tmp 89)),
 gw 91 90 true (.load 10 true (.tmp 5)),
 gw 92 90 true (.load 10 true (.tmp 12)),
 gw 93 90 true (.call 21 [(.tmp 91),(.tmp 92)]),
 gw 94 90 true (.un .not (.tmp 93)),
 gw 95 90 true (.mv (.tmp 94)),
 gw 96 95 false (.load 2 true (.tmp 8)),
 gw 97 95 false (.load 10 true (.tmp 5)),
 gw 98 95 false (.call 20 [(.tmp 96),(.tmp 97)]),
 gw 99 95 false (.fadd 1 (.tmp 8)),
 gw 100 95 false (.load 1 false (.tmp 99)),
 gw 101 95 false (.mv (.tmp 10)),
 gw 102 95 false (.idxA 16 (.tmp 100) (.tmp 101)),
 gw 103 95 false (.load 16 true (.tmp 102)),
 gw 104 95 false (.beq true [.bool,.bool,.bool,.int,.int,.int,.int,.int,.int,.int,.int,.int,.int,.int,.int,.int] (.tmp 98) (.tmp 103)),
 gw 105 90 true (.pick (.tmp 95) (.const (.bool true)) (.tmp 104)),
 gv 106 (.pick (.tmp 90) (.tmp 105) (.const (.bool false))),
 gv 6 (.mv (.tmp 106))]
def c12 : EFn:=⟨107,.seq (.reg c12r0) (.seq (.reg c12r1) (.seq (.join (.reg c12r2) (.cond (.tmp 22) (.seq (.reg c12r3) (.ret)) (.skip))) (.seq (.reg c12r4) (.seq (.join (.reg c12r5) (.cond (.tmp 36) (.seq (.reg c12r6) (.ret)) (.skip))) (.seq (.reg c12r7) (.seq (.reg c12r8) (.seq (.reg c12r9) (.seq (.reg c12r10) (.seq (.reg c12r11) (.seq (.join (.par false false false 22 c12r12) (.cond (.tmp 88) (.seq (.reg c12r13) (.ret)) (.skip))) (.seq (.par false false false 15 c12r14) (.ret)))))))))))),[.tmp 6]⟩
theorem c12_ok : compF Tryd.prog 12=some c12.er:=by kernel_rfl
set_option maxHeartbeats 4000000 in
theorem vn0 {P:Program}(hP:P=Tryd.prog)(p:Policy)(raw:Int)(f:(A10 Int))(r:Bool)(h:law15_VerifyChanges_g p raw f=some r):Fn1 P 12 [vPolicy p,vIu8 raw,vA10Ii64 f] (vB r):=by
 refine .walkE (hP▸c12_ok) fun K hK=>?_;unfold law15_VerifyChanges_g at h;cbv;refine .g h (fun v hv=>law15_head_R hP v hv) aw_ rfl (fun _=>rfl) fun up1 h=>?_;cbv;refine .g h (fun (v2:Bool)=>[.top,.d (.val (.int .u8 raw)),.top,.ptr 0 0,.top,.ptr 1 0,.top,ob up1]++rp 14 .top++[ob v2]++rp 84 .top) (fun v2=>[.cells [.d (.sl (W eRule p.Rules))] 24,.cells (ca f) 38]) (fun y hm Kn1 hKn1=>?_) fun t h=>?_
 ·have h:=hm;clear hm;cbv;refine .g h (fun v hv=>ref14_Few_R hP _ v hv) aw_ rfl (fun _=>rfl) fun v3 h=>?_;cbv;refine brkG h ?_ ?_<;>intro h
  ·cbv;obtain rfl:=oj h;refine hKn1 _ _ _ rfl (.nz (.mtE [0,1] ?_));(cbv;repeat (refine⟨an_,?_⟩;cbv))
  ·cbv;refine .g h (fun v hv=>ref14_Within_R hP _ v hv) aw_ rfl (fun _=>rfl) fun v4 h=>?_;cbv;obtain rfl:=oj h;refine hKn1 _ _ _ rfl (.nz (.mtE [0,1] ?_));(cbv;repeat (refine⟨an_,?_⟩;cbv))
 obtain⟨v2,rfl⟩:=ez t;cbv;refine brkG h ?_ ?_<;>intro h
 ·cbv;obtain rfl:=oj h;exact hK _ _ aw_
 ·cbv;refine .g h (fun v hv=>table_Build_R hP _ v hv) aw_ rfl (fun _=>rfl) fun v5 h=>?_;cbv;refine .g h (fun (v6:Bool)=>[.top,.d (.val (.int .u8 raw)),.top,.ptr 0 0,.top,.ptr 1 0,.top,ob up1,.ptr 2 0,oi v5.2]++rp 26 .top++[ob v6]++rp 70 .top) (fun v6=>[.cells [.d (.sl (W eRule p.Rules))] 24,.cells (ca f) 38,.cells [.d (.sl (W eNode v5.1.Nodes)),.d (.sl (W eDecision v5.1.Leaves))] 28]) (fun y hm Kn1 hKn1=>?_) fun t h=>?_
  ·have h:=hm;clear hm;cbv;refine brkG h ?_ ?_<;>intro h
   ·cbv;obtain rfl:=oj h;refine hKn1 _ _ _ rfl (.nz (.mtE [0,1,2] ?_));(cbv;repeat (refine⟨an_,?_⟩;cbv))
   ·cbv;obtain rfl:=oj h;refine hKn1 _ _ _ rfl (.nz (.mtE [0,1,2] ?_));(cbv;repeat (refine⟨an_,?_⟩;cbv))
  obtain⟨v6,rfl⟩:=ez t;cbv;refine brkG h ?_ ?_<;>intro h
  ·cbv;refine brkG h ?_ ?_<;>intro h
   ·cbv;obtain rfl:=oj h;exact hK _ _ aw_
   ·cbv;obtain rfl:=oj h;exact hK _ _ aw_
  ·cbv;refine .g h fun h=>?_;cbv;refine .g (e:=eDecision) h (W_nil' _) fun l7 h=>?_;cbv;refine .g h rfl (fun _=>rfl) (by decide) fun l8 h=>?_;cbv;refine .g h fun i9 h=>?_;cbv;refine .g h (fun _=>by first | rfl | exact W_nil _ | (cbv;simp only[W_nilx])) fun l11 h=>?_;cbv;refine .g h (fun v hv=>verify_Differ_R hP _ _ v hv) aw_ rfl (fun _=>rfl) fun v12 h=>?_;cbv;refine .g h (fun (v13:Bool)=>rp 5 .top++[.ptr 0 0,.top,ob up1,.ptr 1 0,.top,oi (io.rem (io.wrap .i64 raw) (io.len (W eDecision v5.1.Leaves))),.top,.ptr 2 0]++rp 75 .top++[ob v13]++rp 18 .top) (fun v13=>[.cells (ca f) 38,.cells [.d (.sl (W eNode v5.1.Nodes)),.d (.sl (W eDecision v5.1.Leaves))] 28,.cells (ca v12.1) 38]) (fun y hm Kn1 hKn1=>?_) fun t h=>?_
   ·have h:=hm;clear hm;cbv;refine brkG h ?_ ?_<;>intro h
    ·cbv;obtain rfl:=oj h;refine hKn1 _ _ _ rfl (.nz (.mtE [1,2,6] ?_));(cbv;repeat (refine⟨an_,?_⟩;cbv))
    ·cbv;refine .g h (fun v hv=>table_Lookup_R hP _ _ v hv) aw_ rfl (fun _=>rfl) fun v14 h=>?_;cbv;refine .g h (fun _=>rfl) fun x15 h=>?_;cbv;refine brkG h ?_ ?_<;>intro h
     ·cbv;obtain rfl:=oj h;refine hKn1 _ _ _ rfl (.nz (.mtE [1,2,6] ?_));(cbv;repeat (refine⟨an_,?_⟩;cbv))
     ·cbv;refine .g h (fun v hv=>table_Lookup_R hP _ _ v hv) aw_ rfl (fun _=>rfl) fun v16 h=>?_;cbv;refine .g h (fun _=>rfl) fun x17 h=>?_;cbv;obtain rfl:=oj h;refine hKn1 _ _ _ rfl (.nz (.mtE [1,2,6] ?_));(cbv;repeat (refine⟨an_,?_⟩;cbv))
   obtain⟨v13,rfl⟩:=ez t;cbv;refine brkG h ?_ ?_<;>intro h
   ·cbv;obtain rfl:=oj h;exact hK _ _ aw_
   ·cbv;refine brkG h ?_ ?_<;>intro h
    ·cbv;refine .g h (fun v hv=>ref15_Less_R hP _ _ v hv) aw_ rfl (fun _=>rfl) fun v18 h=>?_;cbv;refine brkG h ?_ ?_<;>intro h
     ·cbv;obtain rfl:=oj h;exact hK _ _ aw_
     ·cbv;refine .g h (fun v hv=>table_Lookup_R hP _ _ v hv) aw_ rfl (fun _=>rfl) fun v19 h=>?_;cbv;refine .g h (fun _=>rfl) fun x20 h=>?_;cbv;obtain rfl:=oj h;exact hK _ _ aw_
    ·cbv;obtain rfl:=oj h;exact hK _ _ aw_
end Go.SX.Td
