/- Parts of the proof. -/
import Derived.Test.YtllbabjgpdmblaaDoorZTdT
import Derived.Test.YtllbabjgpdmblaaDoorZTd32d
import Derived.Test.YtllbabjgpdmblaaDoorZTdBuilder
import Derived.Test.YtllbabjgpdmblaaDoorZTd32
set_option linter.unusedSimpArgs false
set_option linter.unusedVariables false
set_option linter.unusedSectionVars false
namespace Go.SX.Td
open Go Go.SX Go.Proofs
set_option maxRecDepth 100000
def c41r0 : List GOp:=[
 ⟨(some 3),.mv (.tmp 0),none⟩,
 ⟨(some 4),.load 1 false (.tmp 1),none⟩,
 ⟨(some 5),.bin .eql (.tmp 3) (.tmp 4),none⟩]
def c41r1 : List GOp:=[
 ⟨(some 6),.load 1 false (.tmp 1),none⟩,
 ⟨(some 7),.bin .add (.tmp 6) (.const (.int .i64 1)),none⟩,
 ⟨none,.store 1 (.tmp 1) (.tmp 7),none⟩]
def c41 : EFn:=⟨8,.seq (.reg c41r0) (.cond (.tmp 5) (.reg c41r1) (.skip)),[]⟩
theorem c41_ok : compF Tryd.prog 41=some c41.er:=by kernel_rfl
def c71r0 : List GOp:=[
 ⟨(some 8),.load 1 false (.tmp 1),none⟩,
 ⟨(some 9),.mv (.tmp 0),none⟩,
 ⟨(some 10),.mget (.int .i64) false false (.bool false) (.tmp 8) (.tmp 9),none⟩]
def c71r1 : List GOp:=[
 ⟨(some 11),.load 1 false (.tmp 1),none⟩,
 ⟨(some 12),.mv (.tmp 0),none⟩,
 ⟨none,.mset (.int .i64) false (.tmp 11) (.tmp 12) (.const (.bool true)),none⟩]
def c71r2 : List GOp:=[
 ⟨(some 13),.load 1 false (.tmp 2),none⟩,
 ⟨(some 14),.mv (.tmp 0),none⟩,
 ⟨(some 15),.callv (.tmp 13) [(.tmp 14)],none⟩]
def c71r3 : List GOp:=[
 ⟨(some 16),.load 1 false (.tmp 3),none⟩,
 ⟨(some 17),.mv (.tmp 0),none⟩,
 ⟨(some 18),.idxA 4 (.tmp 16) (.tmp 17),none⟩,
 ⟨(some 19),.fadd 2 (.tmp 18),none⟩,
 ⟨(some 20),.load 1 false (.tmp 19),none⟩,
 ⟨(some 21),.len false (.tmp 20),none⟩,
 ⟨(some 22),.mv (.const (.int .i64 0)),none⟩]
def c71r4 : List GOp:=[
 ⟨(some 23),.bin .lss (.tmp 22) (.tmp 21),none⟩]
def c71r5 : List GOp:=[
 ⟨(some 24),.idxA 1 (.tmp 20) (.tmp 22),none⟩,
 ⟨(some 25),.load 1 false (.tmp 24),none⟩,
 ⟨(some 7),.mv (.tmp 25),none⟩]
def c71r6 : List GOp:=[
 ⟨(some 26),.load 1 false (.tmp 4),none⟩,
 ⟨(some 27),.mv (.tmp 7),none⟩,
 ⟨(some 28),.callv (.tmp 26) [(.tmp 27)],none⟩]
def c71r7 : List GOp:=[
 ⟨(some 29),.bin .add (.tmp 22) (.const (.int .i64 1)),none⟩,
 ⟨(some 22),.mv (.tmp 29),none⟩]
def c71l8 : DE:=.seq (.reg c71r4) (.seq (.cond (.tmp 23) (.skip) (.exit 0)) (.join (.block 1 (.seq (.reg c71r5) (.reg c71r6))) (.reg c71r7)))
def c71 : EFn:=⟨30,.seq (.seq (.reg c71r0) (.cond (.tmp 10) (.ret) (.skip))) (.seq (.reg c71r1) (.join (.reg c71r2) (.seq (.reg c71r3) (.block 0 (.loop c71l8))))),[]⟩
theorem c71_ok : compF Tryd.prog 71=some c71.er:=by kernel_rfl
set_option maxHeartbeats 8000000 in
theorem walkV_R {P:Program}(hP:P=Tryd.prog)(nodes:(List Node))(rec:(Int→(List (Int×Bool))→Int→Option ((List (Int×Bool))×Int)))(at0:Int)(seen:(List (Int×Bool)))(nxt:Int)(hrec:∀ at0 seen nxt r,rec at0 seen nxt=some r→SCall P 71 [.cells [.hd 1] 130,.mp (.int .i64) false (WM (Value.int .i64) eB seen),.cells [.clo (.func 41) [] [.ptr 3 0]] 88,.cells [.d (.val (.int .i64 nxt))] 3,.cells [.d (.sl (W eNode nodes))] 25,.cells [.clo (.func 71) [] [.ptr 0 0,.ptr 2 0,.ptr 4 0,.ptr 5 0]] 88] [.d (.val (.int .i64 at0)),.ptr 0 0,.ptr 2 0,.ptr 4 0,.ptr 5 0] (fun sv own'=>sv=.tup []∧own'=[.cells [.hd 1] 130,.mp (.int .i64) false (WM (Value.int .i64) eB r.1),.cells [.clo (.func 41) [] [.ptr 3 0]] 88,.cells [.d (.val (.int .i64 r.2))] 3,.cells [.d (.sl (W eNode nodes))] 25,.cells [.clo (.func 71) [] [.ptr 0 0,.ptr 2 0,.ptr 4 0,.ptr 5 0]] 88]))(r:(List (Int×Bool))×Int)(h:walkV_b nodes rec at0 seen nxt=some r):SCall P 71 [.cells [.hd 1] 130,.mp (.int .i64) false (WM (Value.int .i64) eB seen),.cells [.clo (.func 41) [] [.ptr 3 0]] 88,.cells [.d (.val (.int .i64 nxt))] 3,.cells [.d (.sl (W eNode nodes))] 25,.cells [.clo (.func 71) [] [.ptr 0 0,.ptr 2 0,.ptr 4 0,.ptr 5 0]] 88] [.d (.val (.int .i64 at0)),.ptr 0 0,.ptr 2 0,.ptr 4 0,.ptr 5 0] (fun sv own'=>sv=.tup []∧own'=[.cells [.hd 1] 130,.mp (.int .i64) false (WM (Value.int .i64) eB r.1),.cells [.clo (.func 41) [] [.ptr 3 0]] 88,.cells [.d (.val (.int .i64 r.2))] 3,.cells [.d (.sl (W eNode nodes))] 25,.cells [.clo (.func 71) [] [.ptr 0 0,.ptr 2 0,.ptr 4 0,.ptr 5 0]] 88]):=by
 refine .walkG 6 rfl (Nat.le_of_ble_eq_true rfl) (hP▸c71_ok) fun K hK=>?_;unfold walkV_b at h;cbv;refine .gi (e:=eB) h (by first | rfl | exact WM_nil' _ _) (fun h=>h) fun y1 h=>?_;cbv;refine brkG h (fun h=>?_) (fun h=>?_)
 ·cbv;obtain rfl:=Option.some.inj h;refine hK _ _ [0,1,2,3,4,5] ?_;(cbv;repeat (refine⟨by first | rfl | exact W_nil _ | simp only[W_nilx] | simp only[WM_nilx],?_⟩;cbv))
 ·cbv;refine .gi (e:=eB) h (by first | rfl | exact WM_nil' _ _) (by first | rfl | exact W_nil _ | (cbv;simp only[W_nilx])) fun m2 h=>?_;cbv;refine .g h (fun (c3:Int)=>[.d (.val (.int .i64 at0)),.top,.top,.ptr 4 0,.ptr 5 0]++List.replicate 25 .top) (fun c3=>[.cells [.hd 1] 130,.mp (.int .i64) false (WM (Value.int .i64) eB m2),.cells [.clo (.func 41) [] [.ptr 3 0]] 88,.cells [.d (.val (.int .i64 c3))] 3,.cells [.d (.sl (W eNode nodes))] 25,.cells [.clo (.func 71) [] [.ptr 0 0,.ptr 2 0,.ptr 4 0,.ptr 5 0]] 88]) (fun y hm Kn1 hKn1=>?_) fun t h=>?_
  ·have h:=hm;clear hm;cbv;refine .inl (hP▸c41_ok) ?_;cbv;refine brkG h (fun h=>?_) (fun h=>?_)
   ·cbv;obtain rfl:=Option.some.inj h;refine hKn1 _ _ _ rfl (.nz (.mtE [0,1,2,3,4,5] ?_));(cbv;repeat (refine⟨by first | rfl | exact W_nil _ | simp only[W_nilx] | simp only[WM_nilx],?_⟩;cbv))
   ·cbv;obtain rfl:=Option.some.inj h;refine hKn1 _ _ _ rfl (.nz (.mtE [0,1,2,3,4,5] ?_));(cbv;repeat (refine⟨by first | rfl | exact W_nil _ | simp only[W_nilx] | simp only[WM_nilx],?_⟩;cbv))
  obtain⟨c3,rfl⟩:=ez t;cbv;refine .g h (fun _=>rfl) fun x4 h=>?_;cbv;refine .g h (fun ((own5,c6,v7):(List (Int×Bool))×Int×Int)=>List.replicate 4 .top++[.ptr 5 0]++List.replicate 15 .top++[.d (.sl (W eIi64 x4.Kids)),.d (.val (.int .i64 (io.len (W eIi64 x4.Kids)))),.d (.val (.int .i64 v7))]++List.replicate 7 .top) (fun (own5,c6,v7)=>[.cells [.hd 1] 130,.mp (.int .i64) false (WM (Value.int .i64) eB own5),.cells [.clo (.func 41) [] [.ptr 3 0]] 88,.cells [.d (.val (.int .i64 c6))] 3,.cells [.d (.sl (W eNode nodes))] 25,.cells [.clo (.func 71) [] [.ptr 0 0,.ptr 2 0,.ptr 4 0,.ptr 5 0]] 88]) (.nz (.mtE [0,1,2,3,4,5] ?_)) fun s x h hr1 Kn1 hKn1=>?_
  ·(cbv;repeat (refine⟨by first | rfl | exact W_nil _ | simp only[W_nilx] | simp only[WM_nilx],?_⟩;cbv))
  unfold walkV_l1 at h;obtain⟨own5,c6,v7⟩:=s;cbv;refine brkG h (fun h=>?_) (fun h=>?_)
  ·cbv;refine .g h (fun ((own8,c9):(List (Int×Bool))×Int)=>List.replicate 4 .top++[.ptr 5 0]++List.replicate 15 .top++[.d (.sl (W eIi64 x4.Kids)),.d (.val (.int .i64 (io.len (W eIi64 x4.Kids)))),.d (.val (.int .i64 v7))]++List.replicate 7 .top) (fun (own8,c9)=>[.cells [.hd 1] 130,.mp (.int .i64) false (WM (Value.int .i64) eB own8),.cells [.clo (.func 41) [] [.ptr 3 0]] 88,.cells [.d (.val (.int .i64 c9))] 3,.cells [.d (.sl (W eNode nodes))] 25,.cells [.clo (.func 71) [] [.ptr 0 0,.ptr 2 0,.ptr 4 0,.ptr 5 0]] 88]) (fun y hm Kn2 hKn2=>?_) fun t h=>?_
   ·have h:=hm;clear hm;cbv;refine .g h (fun _=>rfl) fun x10 h=>?_;cbv;obtain⟨r11,hm,h⟩:=Option.bind_eq_some_iff.1 h;refine .embL [0,1,2,3,4,5] (hrec _ _ _ _ hm) (by (cbv;repeat (refine⟨by first | rfl | exact W_nil _ | simp only[W_nilx] | simp only[WM_nilx],?_⟩;cbv))) fun sv0 own0 hq _=>?_;obtain⟨rfl,rfl⟩:=hq;clear hm;cbv;obtain rfl:=Option.some.inj h;refine hKn2 _ _ _ rfl (.nz (.mtE [0,1,2,3,4,5] ?_));(cbv;repeat (refine⟨by first | rfl | exact W_nil _ | simp only[W_nilx] | simp only[WM_nilx],?_⟩;cbv))
   obtain⟨own8,c9⟩:=t;cbv;obtain rfl:=Option.some.inj h;refine hKn1 _ _ _ rfl (.nz (.mtE [0,1,2,3,4,5] ?_));(cbv;repeat (refine⟨by first | rfl | exact W_nil _ | simp only[W_nilx] | simp only[WM_nilx],?_⟩;cbv))
  ·cbv;obtain rfl:=Option.some.inj h;obtain rfl:=hr1 _ rfl;refine hK _ _ [0,1,2,3,4,5] ?_;(cbv;repeat (refine⟨by first | rfl | exact W_nil _ | simp only[W_nilx] | simp only[WM_nilx],?_⟩;cbv))
theorem walkV_all {P:Program}(hP:P=Tryd.prog)(nodes:(List Node)):∀ (n:Nat)(at0:Int)(seen:(List (Int×Bool)))(nxt:Int)(r:(List (Int×Bool))×Int),walkV nodes n at0 seen nxt=some r→SCall P 71 [.cells [.hd 1] 130,.mp (.int .i64) false (WM (Value.int .i64) eB seen),.cells [.clo (.func 41) [] [.ptr 3 0]] 88,.cells [.d (.val (.int .i64 nxt))] 3,.cells [.d (.sl (W eNode nodes))] 25,.cells [.clo (.func 71) [] [.ptr 0 0,.ptr 2 0,.ptr 4 0,.ptr 5 0]] 88] [.d (.val (.int .i64 at0)),.ptr 0 0,.ptr 2 0,.ptr 4 0,.ptr 5 0] (fun sv own'=>sv=.tup []∧own'=[.cells [.hd 1] 130,.mp (.int .i64) false (WM (Value.int .i64) eB r.1),.cells [.clo (.func 41) [] [.ptr 3 0]] 88,.cells [.d (.val (.int .i64 r.2))] 3,.cells [.d (.sl (W eNode nodes))] 25,.cells [.clo (.func 71) [] [.ptr 0 0,.ptr 2 0,.ptr 4 0,.ptr 5 0]] 88])
 | 0,_,_,_,_,h=>by cases h
 | n+1,at0,seen,nxt,r,h=>walkV_R hP nodes _ at0 seen nxt (walkV_all hP nodes n) r h
end Go.SX.Td
namespace Go.SX.Td
open Go Go.SX Go.Proofs
set_option maxRecDepth 100000
def c40r0 : List GOp:=[
 gv 3 (.box 25 (.tmp 0)),
 gv 5 (.box 88 (.tmp 2))]
def c40r1 : List GOp:=[
 gv 8 (.mkm (.int .i64) false),
 gv 6 (.alloc 130 (.map none)),
 ⟨none,.store 1 (.tmp 6) (.tmp 8),none⟩]
def c40r2 : List GOp:=[
 gv 7 (.alloc 88 .nilFunc)]
def c40r3 : List GOp:=[
 gv 9 (.mkfn (.func 71) [] [(.tmp 6),(.tmp 5),(.tmp 3),(.tmp 7)]),
 ⟨none,.store 1 (.tmp 7) (.tmp 9),none⟩]
def c40r4 : List GOp:=[
 gv 10 (.load 1 false (.tmp 7)),
 gv 11 (.mv (.tmp 1)),
 gv 12 (.callv (.tmp 10) [(.tmp 11)])]
def c40 : EFn:=⟨13,.seq (.reg c40r0) (.seq (.reg c40r1) (.seq (.reg c40r2) (.seq (.reg c40r3) (.reg c40r4)))),[]⟩
theorem c40_ok : compF Tryd.prog 40=some c40.er:=by kernel_rfl
def c17r0 : List GOp:=[
 gv 1 (.box 28 (.tmp 0)),
 gv 2 (.mv (.const (.bool false)))]
def c17r1 : List GOp:=[
 gv 10 (.fadd 0 (.tmp 1)),
 gv 11 (.load 1 false (.tmp 10)),
 gv 12 (.len false (.tmp 11)),
 gv 13 (.bin .lss (.tmp 12) (.const (.int .i64 1))),
 gv 14 (.mv (.tmp 13)),
 gw 15 14 false (.fadd 0 (.tmp 1)),
 gw 16 14 false (.load 1 false (.tmp 15)),
 gw 17 14 false (.len false (.tmp 16)),
 gw 18 14 false (.bin .gtr (.tmp 17) (.const (.int .i64 20000))),
 gv 19 (.pick (.tmp 14) (.const (.bool true)) (.tmp 18))]
def c17r2 : List GOp:=[
 gv 2 (.mv (.const (.bool false)))]
def c17r3 : List GOp:=[
 gv 20 (.mkm .str false),
 gv 21 (.mkm (.agg [.bool,.bool,.bool,.int,.int,.int,.int,.int,.int,.int,.int,.int,.int,.int,.int,.int]) false),
 gv 3 (.mv (.tmp 20)),
 gv 4 (.mv (.tmp 21))]
def c17r4 : List GOp:=[
 gv 5 (.mv (.const (.int .i64 0)))]
def c17r5 : List GOp:=[
 gv 22 (.fadd 0 (.tmp 1)),
 gv 23 (.load 1 false (.tmp 22)),
 gv 24 (.len false (.tmp 23)),
 gv 25 (.mv (.const (.int .i64 0)))]
def c17r6 : List GOp:=[
 gv 26 (.bin .lss (.tmp 25) (.tmp 24))]
def c17r7 : List GOp:=[
 gv 27 (.idxA 4 (.tmp 23) (.tmp 25)),
 gv 28 (.load 4 true (.tmp 27)),
 gv 7 (.alloc 64 (.agg #[oz,(.slice none 0 0),(.slice none 0 0),oz])),
 ⟨none,.store 4 (.tmp 7) (.tmp 28),none⟩]
def c17r8 : List GOp:=[
 gv 29 (.fadd 1 (.tmp 7)),
 gv 30 (.load 1 false (.tmp 29)),
 gv 31 (.fadd 2 (.tmp 7)),
 gv 32 (.load 1 false (.tmp 31)),
 gv 33 (.fadd 0 (.tmp 7)),
 gv 34 (.load 1 false (.tmp 33)),
 gv 35 (.fadd 3 (.tmp 7)),
 gv 36 (.load 1 false (.tmp 35)),
 gv 37 (.bslice 3 1 2 oz [(0,(.tmp 34)),(1,(.tmp 36))]),
 gv 38 (.bslice 62 1 3 (.slice none 0 0) [(0,(.tmp 30)),(1,(.tmp 32)),(2,(.tmp 37))]),
 gv 39 (.call 38 [(.tmp 38)]),
 gv 8 (.mv (.tmp 39))]
def c17r9 : List GOp:=[
 gv 40 (.mv (.tmp 3)),
 gv 41 (.mv (.tmp 8)),
 gv 42 (.mget .str false false (.bool false) (.tmp 40) (.tmp 41)),
 gv 43 (.mv (.tmp 42)),
 gw 44 43 false (.load 2 true (.tmp 1)),
 gw 45 43 false (.load 4 true (.tmp 7)),
 gw 46 43 false (.call 39 [(.tmp 44),(.tmp 45)]),
 gw 47 43 false (.un .not (.tmp 46)),
 gv 48 (.pick (.tmp 43) (.const (.bool true)) (.tmp 47))]
def c17r10 : List GOp:=[
 gv 2 (.mv (.const (.bool false)))]
def c17r11 : List GOp:=[
 gv 49 (.mv (.tmp 3)),
 gv 50 (.mv (.tmp 8)),
 ⟨none,.mset .str false (.tmp 49) (.tmp 50) (.const (.bool true)),none⟩]
def c17r12 : List GOp:=[
 gv 51 (.fadd 2 (.tmp 7)),
 gv 52 (.load 1 false (.tmp 51)),
 gv 53 (.len false (.tmp 52)),
 gv 54 (.bin .eql (.tmp 53) (.const (.int .i64 0)))]
def c17r13 : List GOp:=[
 gv 55 (.fadd 3 (.tmp 7)),
 gv 56 (.load 1 false (.tmp 55)),
 gv 57 (.mv (.tmp 5)),
 gv 58 (.bin .neq (.tmp 56) (.tmp 57)),
 gv 59 (.mv (.tmp 58)),
 gw 60 59 false (.mv (.tmp 4)),
 gw 61 59 false (.fadd 1 (.tmp 1)),
 gw 62 59 false (.load 1 false (.tmp 61)),
 gw 63 59 false (.mv (.tmp 5)),
 gw 64 59 false (.idxA 16 (.tmp 62) (.tmp 63)),
 gw 65 59 false (.load 16 true (.tmp 64)),
 gw 66 59 false (.mget (.agg [.bool,.bool,.bool,.int,.int,.int,.int,.int,.int,.int,.int,.int,.int,.int,.int,.int]) false false (.bool false) (.tmp 60) (.tmp 65)),
 gv 67 (.pick (.tmp 59) (.const (.bool true)) (.tmp 66))]
def c17r14 : List GOp:=[
 gv 2 (.mv (.const (.bool false)))]
def c17r15 : List GOp:=[
 gv 68 (.mv (.tmp 4)),
 gv 69 (.fadd 1 (.tmp 1)),
 gv 70 (.load 1 false (.tmp 69)),
 gv 71 (.mv (.tmp 5)),
 gv 72 (.idxA 16 (.tmp 70) (.tmp 71)),
 gv 73 (.load 16 true (.tmp 72)),
 ⟨none,.mset (.agg [.bool,.bool,.bool,.int,.int,.int,.int,.int,.int,.int,.int,.int,.int,.int,.int,.int]) false (.tmp 68) (.tmp 73) (.const (.bool true)),none⟩]
def c17r16 : List GOp:=[
 gv 74 (.mv (.tmp 5)),
 gv 75 (.bin .add (.tmp 74) (.const (.int .i64 1))),
 gv 5 (.mv (.tmp 75))]
def c17r17 : List GOp:=[
 gv 76 (.bin .add (.tmp 25) (.const (.int .i64 1))),
 gv 25 (.mv (.tmp 76))]
def c17l18 : DE:=.seq (.reg c17r6) (.seq (.cond (.tmp 26) (.skip) (.exit 0)) (.join (.block 1 (.seq (.reg c17r7) (.seq (.reg c17r8) (.seq (.join (.reg c17r9) (.cond (.tmp 48) (.seq (.reg c17r10) (.ret)) (.skip))) (.seq (.reg c17r11) (.seq (.reg c17r12) (.cond (.tmp 54) (.seq (.join (.reg c17r13) (.cond (.tmp 67) (.seq (.reg c17r14) (.ret)) (.skip))) (.seq (.reg c17r15) (.reg c17r16))) (.skip)))))))) (.reg c17r17)))
def c17r19 : List GOp:=[
 gv 9 (.alloc 3 oz),
 ⟨none,.store 1 (.tmp 9) (.const (.int .i64 0)),none⟩]
def c17r20 : List GOp:=[
 gv 77 (.fadd 0 (.tmp 1)),
 gv 78 (.load 1 false (.tmp 77)),
 gv 79 (.mkfn (.func 41) [] [(.tmp 9)]),
 gv 80 (.call 40 [(.tmp 78),(.const (.int .i64 0)),(.tmp 79)])]
def c17r21 : List GOp:=[
 gv 81 (.load 1 false (.tmp 9)),
 gv 82 (.fadd 0 (.tmp 1)),
 gv 83 (.load 1 false (.tmp 82)),
 gv 84 (.len false (.tmp 83)),
 gv 85 (.bin .eql (.tmp 81) (.tmp 84)),
 gv 86 (.mv (.tmp 85)),
 gw 87 86 true (.mv (.tmp 5)),
 gw 88 86 true (.fadd 1 (.tmp 1)),
 gw 89 86 true (.load 1 false (.tmp 88)),
 gw 90 86 true (.len false (.tmp 89)),
 gw 91 86 true (.bin .eql (.tmp 87) (.tmp 90)),
 gv 92 (.pick (.tmp 86) (.tmp 91) (.const (.bool false))),
 gv 2 (.mv (.tmp 92))]
def c17 : EFn:=⟨93,.seq (.reg c17r0) (.seq (.join (.reg c17r1) (.cond (.tmp 19) (.seq (.reg c17r2) (.ret)) (.skip))) (.seq (.reg c17r3) (.seq (.reg c17r4) (.join (.seq (.reg c17r5) (.block 0 (.loop c17l18))) (.seq (.reg c17r19) (.join (.reg c17r20) (.seq (.reg c17r21) (.ret)))))))),[.tmp 2]⟩
theorem c17_ok : compF Tryd.prog 17=some c17.er:=by kernel_rfl
set_option maxHeartbeats 4000000 in
theorem table_Valid_R {P:Program}(hP:P=Tryd.prog)(t_:Table)(r:Bool)(h:table_Valid_g t_=some r):Fn1 P 17 [vTable t_] (vB r):=by
 refine .walkE (hP▸c17_ok) fun K hK=>?_;unfold table_Valid_g at h;cbv;refine .g h (fun (v1:Bool)=>[.top,.ptr 0 0]++rp 17 .top++[ob v1]++rp 73 .top) (fun v1=>[.cells [.d (.sl (W eNode t_.Nodes)),.d (.sl (W eDecision t_.Leaves))] 28]) (fun y hm Kn1 hKn1=>?_) fun t h=>?_
 ·have h:=hm;clear hm;cbv;refine brkG h ?_ ?_<;>intro h
  ·cbv;obtain rfl:=oj h;refine hKn1 _ _ _ rfl (.nz (.mtE [0] ?_));(cbv;repeat (refine⟨an_,?_⟩;cbv))
  ·cbv;obtain rfl:=oj h;refine hKn1 _ _ _ rfl (.nz (.mtE [0] ?_));(cbv;repeat (refine⟨an_,?_⟩;cbv))
 obtain⟨v1,rfl⟩:=ez t;cbv;refine brkG h ?_ ?_<;>intro h
 ·cbv;obtain rfl:=oj h;exact hK _ _ aw_
 ·cbv;refine .ga h (fun (leaf2:Int)=>[.top,.ptr 0 0]++rp 3 .top++[oi leaf2]++rp 87 .top) (fun leaf2=>[.cells [.d (.sl (W eNode t_.Nodes)),.d (.sl (W eDecision t_.Leaves))] 28]) (fun y hm hr1 Kn1 hKn1=>?_) fun t h=>?_
  ·have h:=hm;clear hm;cbv;refine .g h (fun ((known3,decisions4,leaf5,v6):(List (ByteArray×Bool))×(List (Decision×Bool))×Int×Int)=>[.top,.ptr 0 0,.top,.hd 1,.hd 2,oi leaf5]++rp 17 .top++[.d (.sl (W eNode t_.Nodes)),oi (io.len (W eNode t_.Nodes)),oi v6]++rp 67 .top) (fun (known3,decisions4,leaf5,v6)=>[.cells [.d (.sl (W eNode t_.Nodes)),.d (.sl (W eDecision t_.Leaves))] 28,.mp .str false (WM Value.string eB known3),.mp (.agg [.bool,.bool,.bool,.int,.int,.int,.int,.int,.int,.int,.int,.int,.int,.int,.int,.int]) false (WM kwDecision eB decisions4)]) (.nz (.mtE [0,1,2] ?_)) fun s x h hr2 Kn2 hKn2=>?_
   ·(cbv;repeat (refine⟨an_,?_⟩;cbv))
   unfold table_Valid_l2 at h;obtain⟨known3,decisions4,leaf5,v6⟩:=s;cbv;refine brkG h ?_ ?_<;>intro h
   ·cbv;refine .ga h (fun ((known7,decisions8,leaf9):(List (ByteArray×Bool))×(List (Decision×Bool))×Int)=>[.top,.ptr 0 0,.top,.hd 1,.hd 2,oi leaf9]++rp 17 .top++[.d (.sl (W eNode t_.Nodes)),oi (io.len (W eNode t_.Nodes)),oi v6]++rp 67 .top) (fun (known7,decisions8,leaf9)=>[.cells [.d (.sl (W eNode t_.Nodes)),.d (.sl (W eDecision t_.Leaves))] 28,.mp .str false (WM Value.string eB known7),.mp (.agg [.bool,.bool,.bool,.int,.int,.int,.int,.int,.int,.int,.int,.int,.int,.int,.int,.int]) false (WM kwDecision eB decisions8)]) (fun y hm hr3 Kn3 hKn3=>?_) fun t h=>?_
    ·have h:=hm;clear hm;cbv;refine .g h (fun _=>rfl) fun x10 h=>?_;cbv;refine .g (e:=eIi64) h (W_cons aw_ (W_cons aw_ (W_nil' _))) fun l11 h=>?_;cbv;refine .g (e:=eLIi64) h (W_cons aw_ (W_cons aw_ (W_cons aw_ (W_nil' _)))) fun l12 h=>?_;cbv;refine .gl [] h (fun v hv=>table_text_R hP _ v hv) aw_ rfl fun key13 h=>?_;cbv;refine .g h (fun (v14:Bool)=>[.top,.ptr 0 0,.top,.hd 1,.hd 2,oi leaf5,.top,.ptr 3 0,.d (.val (.string key13))]++rp 14 .top++[.d (.sl (W eNode t_.Nodes)),oi (io.len (W eNode t_.Nodes)),oi v6]++rp 22 .top++[ob v14]++rp 44 .top) (fun v14=>[.cells [.d (.sl (W eNode t_.Nodes)),.d (.sl (W eDecision t_.Leaves))] 28,.mp .str false (WM Value.string eB known3),.mp (.agg [.bool,.bool,.bool,.int,.int,.int,.int,.int,.int,.int,.int,.int,.int,.int,.int,.int]) false (WM kwDecision eB decisions4),.cells [oi x10.Attr,.d (.sl (W eIi64 x10.Cuts)),.d (.sl (W eIi64 x10.Kids)),oi x10.Leaf] 64]) (fun y hm Kn4 hKn4=>?_) fun t h=>?_
     ·have h:=hm;clear hm;cbv;refine .gs (e:=eB) h (by first | rfl | exact WM_nil' _ _) (fun h=>h) fun y15 h=>?_;cbv;refine brkG h ?_ ?_<;>intro h
      ·cbv;obtain rfl:=oj h;refine hKn4 _ _ _ rfl (.nz (.mtE [0,1,2,3] ?_));(cbv;repeat (refine⟨an_,?_⟩;cbv))
      ·cbv;refine .g h (fun v hv=>table_formed_R hP _ _ v hv) aw_ rfl (fun _=>rfl) fun v16 h=>?_;cbv;obtain rfl:=oj h;refine hKn4 _ _ _ rfl (.nz (.mtE [0,1,2,3] ?_));(cbv;repeat (refine⟨an_,?_⟩;cbv))
     obtain⟨v14,rfl⟩:=ez t;cbv;refine brkG h ?_ ?_<;>intro h
     ·cbv;obtain rfl:=oj h;obtain rfl:=hr3 _ rfl;obtain rfl:=hr2 _ rfl;obtain rfl:=hr1 _ rfl;exact hK _ _ aw_
     ·cbv;refine .gs (e:=eB) h (by first | rfl | exact WM_nil' _ _) aw_ fun m17 h=>?_;cbv;refine brkG h ?_ ?_<;>intro h
      ·cbv;refine .g h (fun (v18:Bool)=>[.top,.ptr 0 0,.top,.hd 1,.hd 2,oi leaf5]++rp 17 .top++[.d (.sl (W eNode t_.Nodes)),oi (io.len (W eNode t_.Nodes)),oi v6]++rp 41 .top++[ob v18]++rp 25 .top) (fun v18=>[.cells [.d (.sl (W eNode t_.Nodes)),.d (.sl (W eDecision t_.Leaves))] 28,.mp .str false (WM Value.string eB m17),.mp (.agg [.bool,.bool,.bool,.int,.int,.int,.int,.int,.int,.int,.int,.int,.int,.int,.int,.int]) false (WM kwDecision eB decisions4)]) (fun y hm Kn4 hKn4=>?_) fun t h=>?_
       ·have h:=hm;clear hm;cbv;refine brkG h ?_ ?_<;>intro h
        ·cbv;obtain rfl:=oj h;refine hKn4 _ _ _ rfl (.nz (.mtE [0,1,2] ?_));(cbv;repeat (refine⟨an_,?_⟩;cbv))
        ·cbv;refine .g h (fun _=>rfl) fun x19 h=>?_;cbv;refine .g kEqDecision (k:=x19) (e:=eB) h (by first | rfl | exact WM_nil' _ _) (fun h=>h) fun y20 h=>?_;cbv;obtain rfl:=oj h;refine hKn4 _ _ _ rfl (.nz (.mtE [0,1,2] ?_));(cbv;repeat (refine⟨an_,?_⟩;cbv))
       obtain⟨v18,rfl⟩:=ez t;cbv;refine brkG h ?_ ?_<;>intro h
       ·cbv;obtain rfl:=oj h;obtain rfl:=hr3 _ rfl;obtain rfl:=hr2 _ rfl;obtain rfl:=hr1 _ rfl;exact hK _ _ aw_
       ·cbv;refine .g h (fun _=>rfl) fun x21 h=>?_;cbv;refine .gk kEqDecision (k:=x21) (e:=eB) h (by first | rfl | exact WM_nil' _ _) aw_ fun m22 h=>?_;cbv;obtain rfl:=oj h;refine hKn3 _ _ _ rfl (.nz (.mtE [0,1,2] ?_));(cbv;repeat (refine⟨an_,?_⟩;cbv))
      ·cbv;obtain rfl:=oj h;refine hKn3 _ _ _ rfl (.nz (.mtE [0,1,2] ?_));(cbv;repeat (refine⟨an_,?_⟩;cbv))
    obtain⟨known7,decisions8,leaf9⟩:=t;cbv;obtain rfl:=oj h;refine hKn2 _ _ _ rfl (.nz (.mtE [0,1,2] ?_));(cbv;repeat (refine⟨an_,?_⟩;cbv))
   ·cbv;obtain rfl:=oj h;obtain rfl:=hr2 _ rfl;refine hKn1 _ _ _ rfl (.nz (.mtE [0] ?_));(cbv;repeat (refine⟨an_,?_⟩;cbv))
  obtain⟨leaf2,rfl⟩:=ez t;cbv;refine .g h (fun (next23:Int)=>[.top,.ptr 0 0]++rp 3 .top++[oi leaf2]++rp 3 .top++[.ptr 1 0]++rp 83 .top) (fun next23=>[.cells [.d (.sl (W eNode t_.Nodes)),.d (.sl (W eDecision t_.Leaves))] 28,.cells [oi next23] 3]) (fun y hm Kn1 hKn1=>?_) fun t h=>?_
  ·have h:=hm;clear hm;cbv;refine .inl (hP▸c40_ok) ?_;cbv;obtain⟨r24,hm,h⟩:=Option.bind_eq_some_iff.1 h;refine .embL [5,4,3,1,2,6] (walkV_all hP t_.Nodes 11 _ _ _ _ hm) (by (cbv;repeat (refine⟨an_,?_⟩;cbv))) fun sv0 own0 hq _=>?_;obtain⟨rfl,rfl⟩:=hq;clear hm;cbv;obtain rfl:=oj h;refine hKn1 _ _ _ rfl (.nz (.mtE [0,1] ?_));(cbv;repeat (refine⟨an_,?_⟩;cbv))
  obtain⟨next23,rfl⟩:=ez t;cbv;refine brkG h ?_ ?_<;>intro h
  ·cbv;obtain rfl:=oj h;exact hK _ _ aw_
  ·cbv;obtain rfl:=oj h;exact hK _ _ aw_
end Go.SX.Td
namespace Go.SX.Td
open Go Go.SX Go.Proofs
set_option maxRecDepth 100000
def c72r0 : List GOp:=[
 gv 2 (.box 57 (.tmp 0)),
 gv 3 (.mv (.const (.bool false)))]
def c72r1 : List GOp:=[
 gv 6 (.load 10 true (.tmp 1)),
 gv 7 (.mv (.const (.int .i64 0)))]
def c72r2 : List GOp:=[
 gv 8 (.bin .lss (.tmp 7) (.const (.int .i64 10)))]
def c72r3 : List GOp:=[
 gv 9 (.mv (.tmp 7)),
 gv 10 (.idxV 10 1 false (.tmp 6) (.tmp 7)),
 gv 4 (.mv (.tmp 9)),
 gv 5 (.mv (.tmp 10))]
def c72r4 : List GOp:=[
 gv 11 (.mv (.tmp 5)),
 gv 12 (.mv (.tmp 4)),
 gv 13 (.idxP 10 2 (.tmp 2) (.tmp 12)),
 gv 14 (.fadd 0 (.tmp 13)),
 gv 15 (.load 1 false (.tmp 14)),
 gv 16 (.bin .lss (.tmp 11) (.tmp 15)),
 gv 17 (.mv (.tmp 16)),
 gw 18 17 false (.mv (.tmp 5)),
 gw 19 17 false (.mv (.tmp 4)),
 gw 20 17 false (.idxP 10 2 (.tmp 2) (.tmp 19)),
 gw 21 17 false (.fadd 1 (.tmp 20)),
 gw 22 17 false (.load 1 false (.tmp 21)),
 gw 23 17 false (.bin .gtr (.tmp 18) (.tmp 22)),
 gv 24 (.pick (.tmp 17) (.const (.bool true)) (.tmp 23))]
def c72r5 : List GOp:=[
 gv 3 (.mv (.const (.bool false)))]
def c72r6 : List GOp:=[
 gv 25 (.bin .add (.tmp 7) (.const (.int .i64 1))),
 gv 7 (.mv (.tmp 25))]
def c72l7 : DE:=.seq (.reg c72r2) (.seq (.cond (.tmp 8) (.skip) (.exit 0)) (.seq (.block 1 (.join (.reg c72r3) (.join (.reg c72r4) (.cond (.tmp 24) (.seq (.reg c72r5) (.ret)) (.skip))))) (.reg c72r6)))
def c72r8 : List GOp:=[
 gv 3 (.mv (.const (.bool true)))]
def c72 : EFn:=⟨26,.seq (.reg c72r0) (.join (.seq (.reg c72r1) (.block 0 (.loop c72l7))) (.seq (.reg c72r8) (.ret))),[.tmp 3]⟩
theorem c72_ok : compF Tryd.prog 72=some c72.er:=by kernel_rfl
def c49r0 : List GOp:=[
 gv 2 (.box 36 (.tmp 0)),
 gv 3 (.box 38 (.tmp 1)),
 gv 4 (.mv (.const (.bool false)))]
def c49r1 : List GOp:=[
 gv 5 (.fadd 2 (.tmp 2)),
 gv 6 (.load 1 false (.tmp 5)),
 gv 7 (.mkfn (.func 72) [] [(.tmp 3)]),
 gv 8 (.call 33 [(.tmp 6),(.tmp 7)]),
 gv 4 (.mv (.tmp 8))]
def c49 : EFn:=⟨9,.seq (.reg c49r0) (.seq (.reg c49r1) (.ret)),[.tmp 4]⟩
theorem c49_ok : compF Tryd.prog 49=some c49.er:=by kernel_rfl
set_option maxHeartbeats 4000000 in
theorem decide_Holds_R {P:Program}(hP:P=Tryd.prog)(r_:Rule)(f:(A10 Int))(r:Bool)(h:decide_Holds_g r_ f=some r):Fn1 P 49 [vRule r_,vA10Ii64 f] (vB r):=by
 refine .walkE (hP▸c49_ok) fun K hK=>?_;unfold decide_Holds_g at h;cbv;refine .inl (hP▸c33_ok) ?_;cbv;refine .inl (hP▸c61_ok) ?_;cbv;refine .ga h (fun (_:Unit)=>rp 19 .top) (fun _=>[.cells [oi r_.Kind,.d (.val (.string r_.Name)),.d (.sl (W eA10Range r_.Zones)),oi r_.N,oi r_.R.Num,oi r_.R.Den,oi r_.S.Num,oi r_.S.Den] 36,.cells (ca f) 38]) (fun y hm hr1 Kn1 hKn1=>?_) fun t h=>?_
 ·have h:=hm;clear hm;cbv;refine .g h (fun (v1:Int)=>[.d (.sl (W eA10Range r_.Zones)),.clo (.func 72) [] [.ptr 1 0]]++rp 5 .top++[oi (io.len (W eA10Range r_.Zones)),oi v1]++rp 10 .top) (fun v1=>[.cells [oi r_.Kind,.d (.val (.string r_.Name)),.d (.sl (W eA10Range r_.Zones)),oi r_.N,oi r_.R.Num,oi r_.R.Den,oi r_.S.Num,oi r_.S.Den] 36,.cells (ca f) 38]) (.nz (.mtE [0,1] ?_)) fun s x h hr2 Kn2 hKn2=>?_
  ·(cbv;repeat (refine⟨an_,?_⟩;cbv))
  unfold decide_Holds_l22 at h;obtain⟨v1,rfl⟩:=ez s;cbv;refine brkG h ?_ ?_<;>intro h
  ·cbv;refine .g h (fun (v2:Bool)=>[.d (.sl (W eA10Range r_.Zones)),.clo (.func 72) [] [.ptr 1 0]]++rp 3 .top++[oi v1,.top,oi (io.len (W eA10Range r_.Zones)),oi v1]++rp 7 .top++[ob v2,.top,.top]) (fun v2=>[.cells [oi r_.Kind,.d (.val (.string r_.Name)),.d (.sl (W eA10Range r_.Zones)),oi r_.N,oi r_.R.Num,oi r_.R.Den,oi r_.S.Num,oi r_.S.Den] 36,.cells (ca f) 38]) (fun y hm Kn3 hKn3=>?_) fun t h=>?_
   ·have h:=hm;clear hm;cbv;refine .g h (fun _=>rfl) fun x3 h=>?_;cbv;refine .inl (hP▸c72_ok) ?_;cbv;refine .ga h (fun (_:Unit)=>rp 26 .top) (fun _=>[.cells [oi r_.Kind,.d (.val (.string r_.Name)),.d (.sl (W eA10Range r_.Zones)),oi r_.N,oi r_.R.Num,oi r_.R.Den,oi r_.S.Num,oi r_.S.Den] 36,.cells (ca f) 38]) (fun y hm hr4 Kn4 hKn4=>?_) fun t h=>?_
    ·have h:=hm;clear hm;cbv;refine .g h (fun (v4:Int)=>[.top,.top,.ptr 2 0]++rp 3 .top++[.agg (ca f),oi v4]++rp 18 .top) (fun v4=>[.cells [oi r_.Kind,.d (.val (.string r_.Name)),.d (.sl (W eA10Range r_.Zones)),oi r_.N,oi r_.R.Num,oi r_.R.Den,oi r_.S.Num,oi r_.S.Den] 36,.cells (ca f) 38,.cells (cR x3) 57]) (.nz (.mtE [0,1,2] ?_)) fun s x h hr5 Kn5 hKn5=>?_
     ·(cbv;repeat (refine⟨an_,?_⟩;cbv))
     unfold decide_Holds_l26 at h;obtain⟨v4,rfl⟩:=ez s;cbv;refine brkG h ?_ ?_<;>intro h
     ·cbv;refine .g h (fun (n5:Int)=>[.top,.top,.ptr 2 0,.top,oi v4,oi n5,.agg (ca f),oi v4]++rp 18 .top) (fun n5=>[.cells [oi r_.Kind,.d (.val (.string r_.Name)),.d (.sl (W eA10Range r_.Zones)),oi r_.N,oi r_.R.Num,oi r_.R.Den,oi r_.S.Num,oi r_.S.Den] 36,.cells (ca f) 38,.cells (cR x3) 57]) (fun y hm Kn6 hKn6=>?_) fun t h=>?_
      ·have h:=hm;clear hm;cbv
       refine .c10 h ?_ ?_ ?_ ?_ ?_ ?_ ?_ ?_ ?_ ?_<;>(
        intro hni6 h;cbv;obtain rfl:=oj h;refine hKn6 _ _ _ rfl (.nz (.mtE [0,1,2] ?_));(cbv;repeat (refine⟨an_,?_⟩;cbv))
        )
      obtain⟨n5,rfl⟩:=ez t;cbv;refine .g h (fun (v7:Bool)=>[.top,.top,.ptr 2 0]++rp 3 .top++[.agg (ca f),oi v4]++rp 16 .top++[ob v7,.top]) (fun v7=>[.cells [oi r_.Kind,.d (.val (.string r_.Name)),.d (.sl (W eA10Range r_.Zones)),oi r_.N,oi r_.R.Num,oi r_.R.Den,oi r_.S.Num,oi r_.S.Den] 36,.cells (ca f) 38,.cells (cR x3) 57]) (fun y hm Kn6 hKn6=>?_) fun t h=>?_
      ·have h:=hm;clear hm;cbv
       refine .c10 h ?_ ?_ ?_ ?_ ?_ ?_ ?_ ?_ ?_ ?_<;>(
        intro hnix8 h;cbv;refine brkG h ?_ ?_<;>intro h
        ·cbv;obtain rfl:=oj h;refine hKn6 _ _ _ rfl (.nz (.mtE [0,1,2] ?_));(cbv;repeat (refine⟨an_,?_⟩;cbv))
        ·cbv;refine .at _ hnix8 (by decide) ?_;cbv;obtain rfl:=oj h;refine hKn6 _ _ _ rfl (.nz (.mtE [0,1,2] ?_));(cbv;repeat (refine⟨an_,?_⟩;cbv))
        )
      obtain⟨v7,rfl⟩:=ez t;cbv;refine brkG h ?_ ?_<;>intro h
      ·cbv;obtain rfl:=oj h;obtain rfl:=hr5 _ rfl;obtain rfl:=hr4 _ rfl;refine hKn3 _ _ _ rfl (.nz (.mtE [0,1] ?_));(cbv;repeat (refine⟨an_,?_⟩;cbv))
      ·cbv;obtain rfl:=oj h;refine hKn5 _ _ _ rfl (.nz (.mtE [0,1,2] ?_));(cbv;repeat (refine⟨an_,?_⟩;cbv))
     ·cbv;obtain rfl:=oj h;obtain rfl:=hr5 _ rfl;refine hKn4 _ _ _ rfl (.nz (.mtE [0,1] ?_));(cbv;repeat (refine⟨an_,?_⟩;cbv))
    cbv;obtain rfl:=oj h;refine hKn3 _ _ _ rfl (.nz (.mtE [0,1] ?_));(cbv;repeat (refine⟨an_,?_⟩;cbv))
   obtain⟨v2,rfl⟩:=ez t;cbv;refine brkG h ?_ ?_<;>intro h
   ·cbv;obtain rfl:=oj h;obtain rfl:=hr2 _ rfl;obtain rfl:=hr1 _ rfl;exact hK _ _ aw_
   ·cbv;obtain rfl:=oj h;refine hKn2 _ _ _ rfl (.nz (.mtE [0,1] ?_));(cbv;repeat (refine⟨an_,?_⟩;cbv))
  ·cbv;obtain rfl:=oj h;obtain rfl:=hr2 _ rfl;refine hKn1 _ _ _ rfl (.nz (.mtE [0,1] ?_));(cbv;repeat (refine⟨an_,?_⟩;cbv))
 cbv;obtain rfl:=oj h;exact hK _ _ aw_
end Go.SX.Td
