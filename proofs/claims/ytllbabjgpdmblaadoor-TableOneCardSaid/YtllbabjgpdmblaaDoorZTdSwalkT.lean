/- Parts of the proof. -/
import Derived.Test.YtllbabjgpdmblaaDoorZTdT
import Derived.Test.YtllbabjgpdmblaaDoorZTdCompact
import Derived.Test.YtllbabjgpdmblaaDoorZTdSwalkV
import Derived.Test.YtllbabjgpdmblaaDoorZSyU
import Derived.Test.YtllbabjgpdmblaaDoorZTd32
import Derived.Test.YtllbabjgpdmblaaDoorZTdSbuild
set_option linter.unusedSimpArgs false
set_option linter.unusedVariables false
set_option linter.unusedSectionVars false
namespace Go.SX.Td
open Go Go.SX Go.Proofs
set_option maxRecDepth 100000
def c76r0 : List GOp:=[
 ⟨(some 4),.load 1 false (.tmp 2),none⟩,
 ⟨(some 5),.mv (.tmp 0),none⟩,
 ⟨(some 6),.load 1 false (.tmp 1),none⟩,
 ⟨(some 7),.len false (.tmp 6),none⟩,
 ⟨none,.mset (.int .i64) false (.tmp 4) (.tmp 5) (.tmp 7),none⟩]
def c76r1 : List GOp:=[
 ⟨(some 8),.load 1 false (.tmp 1),none⟩,
 ⟨(some 9),.mv (.tmp 0),none⟩,
 ⟨(some 10),.bslice 3 1 1 (.int .i64 0) [(0,(.tmp 9))],none⟩,
 ⟨(some 11),.app 3 1 8 (.int .i64 0) (.tmp 8) (.tmp 10),none⟩,
 ⟨none,.store 1 (.tmp 1) (.tmp 11),none⟩]
def c76 : EFn:=⟨12,.seq (.reg c76r0) (.reg c76r1),[]⟩
theorem c76_ok : compF Tryd.prog 76=some c76.er:=by kernel_rfl
set_option maxHeartbeats 8000000 in
theorem walkT_R {P:Program}(hP:P=Tryd.prog)(nodes:(List Node))(rec:(Int→(List (Int×Bool))→(List Int)→(List (Int×Int))→Option ((List (Int×Bool))×(List Int)×(List (Int×Int)))))(at0:Int)(seen:(List (Int×Bool)))(ord:(List Int))(number:(List (Int×Int)))(hrec:∀ at0 seen ord number r,rec at0 seen ord number=some r→SCall P 71 [.cells [.hd 1] 130,.mp (.int .i64) false (WM (Value.int .i64) eB seen),.cells [.clo (.func 76) [] [.ptr 3 0,.ptr 5 0]] 88,.cells [.hd 4] 62,.row 3 1 (W eIi64 ord),.cells [.hd 6] 135,.mp (.int .i64) false (WM (Value.int .i64) eIi64 number),.cells [.hd 8] 25,.row 64 4 (W eNode nodes),.cells [.clo (.func 71) [] [.ptr 0 0,.ptr 2 0,.ptr 7 0,.ptr 9 0]] 88] [.d (.val (.int .i64 at0)),.ptr 0 0,.ptr 2 0,.ptr 7 0,.ptr 9 0] (fun sv own'=>sv=.tup []∧own'=[.cells [.hd 1] 130,.mp (.int .i64) false (WM (Value.int .i64) eB r.1),.cells [.clo (.func 76) [] [.ptr 3 0,.ptr 5 0]] 88,.cells [.hd 10] 62,.gone,.cells [.hd 6] 135,.mp (.int .i64) false (WM (Value.int .i64) eIi64 r.2.2),.cells [.hd 8] 25,.row 64 4 (W eNode nodes),.cells [.clo (.func 71) [] [.ptr 0 0,.ptr 2 0,.ptr 7 0,.ptr 9 0]] 88,.row 3 1 (W eIi64 r.2.1)]))(r:(List (Int×Bool))×(List Int)×(List (Int×Int)))(h:walkT_b nodes rec at0 seen ord number=some r):SCall P 71 [.cells [.hd 1] 130,.mp (.int .i64) false (WM (Value.int .i64) eB seen),.cells [.clo (.func 76) [] [.ptr 3 0,.ptr 5 0]] 88,.cells [.hd 4] 62,.row 3 1 (W eIi64 ord),.cells [.hd 6] 135,.mp (.int .i64) false (WM (Value.int .i64) eIi64 number),.cells [.hd 8] 25,.row 64 4 (W eNode nodes),.cells [.clo (.func 71) [] [.ptr 0 0,.ptr 2 0,.ptr 7 0,.ptr 9 0]] 88] [.d (.val (.int .i64 at0)),.ptr 0 0,.ptr 2 0,.ptr 7 0,.ptr 9 0] (fun sv own'=>sv=.tup []∧own'=[.cells [.hd 1] 130,.mp (.int .i64) false (WM (Value.int .i64) eB r.1),.cells [.clo (.func 76) [] [.ptr 3 0,.ptr 5 0]] 88,.cells [.hd 10] 62,.gone,.cells [.hd 6] 135,.mp (.int .i64) false (WM (Value.int .i64) eIi64 r.2.2),.cells [.hd 8] 25,.row 64 4 (W eNode nodes),.cells [.clo (.func 71) [] [.ptr 0 0,.ptr 2 0,.ptr 7 0,.ptr 9 0]] 88,.row 3 1 (W eIi64 r.2.1)]):=by
 refine .walkG 10 rfl (Nat.le_of_ble_eq_true rfl) (hP▸c71_ok) fun K hK=>?_;unfold walkT_b at h;cbv;refine .gi (e:=eB) h (by first | rfl | exact WM_nil' _ _) (fun h=>h) fun y1 h=>?_;cbv;refine brkG h (fun h=>?_) (fun h=>?_)
 ·cbv;obtain rfl:=Option.some.inj h;refine hK _ _ [0,1,2,3,4,5,6,7,8,9,4] ?_;(cbv;repeat (refine⟨by first | rfl | exact W_nil _ | simp only[W_nilx] | simp only[WM_nilx],?_⟩;cbv))
 ·cbv;refine .gi (e:=eB) h (by first | rfl | exact WM_nil' _ _) (by first | rfl | exact W_nil _ | (cbv;simp only[W_nilx])) fun m2 h=>?_;cbv;refine .g h (fun ((c3,own4):(List Int)×(List (Int×Int)))=>[.d (.val (.int .i64 at0)),.top,.top,.ptr 7 0,.ptr 9 0]++List.replicate 25 .top) (fun (c3,own4)=>[.cells [.hd 1] 130,.mp (.int .i64) false (WM (Value.int .i64) eB m2),.cells [.clo (.func 76) [] [.ptr 3 0,.ptr 5 0]] 88,.cells [.hd 10] 62,.gone,.cells [.hd 6] 135,.mp (.int .i64) false (WM (Value.int .i64) eIi64 own4),.cells [.hd 8] 25,.row 64 4 (W eNode nodes),.cells [.clo (.func 71) [] [.ptr 0 0,.ptr 2 0,.ptr 7 0,.ptr 9 0]] 88,.row 3 1 (W eIi64 c3)]) (fun y hm Kn1 hKn1=>?_) fun t h=>?_
  ·have h:=hm;clear hm;cbv;refine .inl (hP▸c76_ok) ?_;cbv;refine .gi (e:=eIi64) h (by first | rfl | exact WM_nil' _ _) (by first | rfl | exact W_nil _ | (cbv;simp only[W_nilx])) fun m5 h=>?_;cbv;refine .g (e:=eIi64) h (W_cons (by first | rfl | exact W_nil _ | (cbv;simp only[W_nilx])) (W_nil' _)) fun l6 h=>?_;cbv;refine .g h rfl (fun _=>rfl) (by decide) fun l7 h=>?_;cbv;obtain rfl:=Option.some.inj h;refine hKn1 _ _ _ rfl (.nz (.mtE [0,1,2,3,4,5,6,7,8,9,11] ?_));(cbv;repeat (refine⟨by first | rfl | exact W_nil _ | simp only[W_nilx] | simp only[WM_nilx],?_⟩;cbv))
  obtain⟨c3,own4⟩:=t;cbv;refine .g h fun ix8 h=>?_;cbv;refine .g h fun v9 h=>?_;cbv;refine .g h (fun ((own10,c11,own12,v13):(List (Int×Bool))×(List Int)×(List (Int×Int))×Int)=>List.replicate 4 .top++[.ptr 9 0]++List.replicate 15 .top++[.d (.sl (W eIi64 v9.Kids)),.d (.val (.int .i64 (io.len (W eIi64 v9.Kids)))),.d (.val (.int .i64 v13))]++List.replicate 7 .top) (fun (own10,c11,own12,v13)=>[.cells [.hd 1] 130,.mp (.int .i64) false (WM (Value.int .i64) eB own10),.cells [.clo (.func 76) [] [.ptr 3 0,.ptr 5 0]] 88,.cells [.hd 10] 62,.gone,.cells [.hd 6] 135,.mp (.int .i64) false (WM (Value.int .i64) eIi64 own12),.cells [.hd 8] 25,.row 64 4 (W eNode nodes),.cells [.clo (.func 71) [] [.ptr 0 0,.ptr 2 0,.ptr 7 0,.ptr 9 0]] 88,.row 3 1 (W eIi64 c11)]) (.nz (.mtE [0,1,2,3,4,5,6,7,8,9,10] ?_)) fun s x h hr1 Kn1 hKn1=>?_
  ·(cbv;repeat (refine⟨by first | rfl | exact W_nil _ | simp only[W_nilx] | simp only[WM_nilx],?_⟩;cbv))
  unfold walkT_l1 at h;obtain⟨own10,c11,own12,v13⟩:=s;cbv;refine brkG h (fun h=>?_) (fun h=>?_)
  ·cbv;refine .g h (fun ((own14,c15,own16):(List (Int×Bool))×(List Int)×(List (Int×Int)))=>List.replicate 4 .top++[.ptr 9 0]++List.replicate 15 .top++[.d (.sl (W eIi64 v9.Kids)),.d (.val (.int .i64 (io.len (W eIi64 v9.Kids)))),.d (.val (.int .i64 v13))]++List.replicate 7 .top) (fun (own14,c15,own16)=>[.cells [.hd 1] 130,.mp (.int .i64) false (WM (Value.int .i64) eB own14),.cells [.clo (.func 76) [] [.ptr 3 0,.ptr 5 0]] 88,.cells [.hd 10] 62,.gone,.cells [.hd 6] 135,.mp (.int .i64) false (WM (Value.int .i64) eIi64 own16),.cells [.hd 8] 25,.row 64 4 (W eNode nodes),.cells [.clo (.func 71) [] [.ptr 0 0,.ptr 2 0,.ptr 7 0,.ptr 9 0]] 88,.row 3 1 (W eIi64 c15)]) (fun y hm Kn2 hKn2=>?_) fun t h=>?_
   ·have h:=hm;clear hm;cbv;refine .g h (fun _=>rfl) fun x17 h=>?_;cbv;obtain⟨r18,hm,h⟩:=Option.bind_eq_some_iff.1 h;refine .embL [0,1,2,3,10,5,6,7,8,9] (hrec _ _ _ _ _ hm) (by (cbv;repeat (refine⟨by first | rfl | exact W_nil _ | simp only[W_nilx] | simp only[WM_nilx],?_⟩;cbv))) fun sv0 own0 hq _=>?_;obtain⟨rfl,rfl⟩:=hq;clear hm;cbv;obtain rfl:=Option.some.inj h;refine hKn2 _ _ _ rfl (.nz (.mtE [0,1,2,3,4,5,6,7,8,9,11] ?_));(cbv;repeat (refine⟨by first | rfl | exact W_nil _ | simp only[W_nilx] | simp only[WM_nilx],?_⟩;cbv))
   obtain⟨own14,c15,own16⟩:=t;cbv;obtain rfl:=Option.some.inj h;refine hKn1 _ _ _ rfl (.nz (.mtE [0,1,2,3,4,5,6,7,8,9,10] ?_));(cbv;repeat (refine⟨by first | rfl | exact W_nil _ | simp only[W_nilx] | simp only[WM_nilx],?_⟩;cbv))
  ·cbv;obtain rfl:=Option.some.inj h;obtain rfl:=hr1 _ rfl;refine hK _ _ [0,1,2,3,4,5,6,7,8,9,10] ?_;(cbv;repeat (refine⟨by first | rfl | exact W_nil _ | simp only[W_nilx] | simp only[WM_nilx],?_⟩;cbv))
theorem walkT_all {P:Program}(hP:P=Tryd.prog)(nodes:(List Node)):∀ (n:Nat)(at0:Int)(seen:(List (Int×Bool)))(ord:(List Int))(number:(List (Int×Int)))(r:(List (Int×Bool))×(List Int)×(List (Int×Int))),walkT nodes n at0 seen ord number=some r→SCall P 71 [.cells [.hd 1] 130,.mp (.int .i64) false (WM (Value.int .i64) eB seen),.cells [.clo (.func 76) [] [.ptr 3 0,.ptr 5 0]] 88,.cells [.hd 4] 62,.row 3 1 (W eIi64 ord),.cells [.hd 6] 135,.mp (.int .i64) false (WM (Value.int .i64) eIi64 number),.cells [.hd 8] 25,.row 64 4 (W eNode nodes),.cells [.clo (.func 71) [] [.ptr 0 0,.ptr 2 0,.ptr 7 0,.ptr 9 0]] 88] [.d (.val (.int .i64 at0)),.ptr 0 0,.ptr 2 0,.ptr 7 0,.ptr 9 0] (fun sv own'=>sv=.tup []∧own'=[.cells [.hd 1] 130,.mp (.int .i64) false (WM (Value.int .i64) eB r.1),.cells [.clo (.func 76) [] [.ptr 3 0,.ptr 5 0]] 88,.cells [.hd 10] 62,.gone,.cells [.hd 6] 135,.mp (.int .i64) false (WM (Value.int .i64) eIi64 r.2.2),.cells [.hd 8] 25,.row 64 4 (W eNode nodes),.cells [.clo (.func 71) [] [.ptr 0 0,.ptr 2 0,.ptr 7 0,.ptr 9 0]] 88,.row 3 1 (W eIi64 r.2.1)])
 | 0,_,_,_,_,_,h=>by cases h
 | n+1,at0,seen,ord,number,r,h=>walkT_R hP nodes _ at0 seen ord number (walkT_all hP nodes n) r h
end Go.SX.Td
namespace Go.SX.Td
open Go Go.SX Go.Proofs
set_option maxRecDepth 100000
def c59r0 : List GOp:=[
 gv 4 (.alloc 28 (.agg #[(.slice none 0 0),(.slice none 0 0)]))]
def c59r1 : List GOp:=[
 gv 14 (.mkm (.int .i64) false),
 gv 5 (.alloc 135 (.map none)),
 ⟨none,.store 1 (.tmp 5) (.tmp 14),none⟩]
def c59r2 : List GOp:=[
 gv 6 (.alloc 62 (.slice none 0 0))]
def c59r3 : List GOp:=[
 gv 15 (.mv (.tmp 0)),
 gv 16 (.nilck (.tmp 15)),
 gv 17 (.fadd 0 (.tmp 16)),
 gv 18 (.load 1 false (.tmp 17)),
 gv 19 (.mv (.tmp 1)),
 gv 20 (.mkfn (.func 76) [] [(.tmp 6),(.tmp 5)]),
 gv 21 (.call 40 [(.tmp 18),(.tmp 19),(.tmp 20)])]
def c59r4 : List GOp:=[
 gv 7 (.alloc 28 (.agg #[(.slice none 0 0),(.slice none 0 0)]))]
def c59r5 : List GOp:=[
 gv 22 (.load 1 false (.tmp 6)),
 gv 23 (.len false (.tmp 22)),
 gv 24 (.mv (.const (.int .i64 0)))]
def c59r6 : List GOp:=[
 gv 25 (.bin .lss (.tmp 24) (.tmp 23))]
def c59r7 : List GOp:=[
 gv 26 (.idxA 1 (.tmp 22) (.tmp 24)),
 gv 27 (.load 1 false (.tmp 26)),
 gv 9 (.mv (.tmp 27))]
def c59r8 : List GOp:=[
 gv 28 (.mv (.tmp 0)),
 gv 29 (.nilck (.tmp 28)),
 gv 30 (.fadd 0 (.tmp 29)),
 gv 31 (.load 1 false (.tmp 30)),
 gv 32 (.mv (.tmp 9)),
 gv 33 (.idxA 4 (.tmp 31) (.tmp 32)),
 gv 34 (.load 4 true (.tmp 33)),
 gv 10 (.alloc 64 (.agg #[oz,(.slice none 0 0),(.slice none 0 0),oz])),
 ⟨none,.store 4 (.tmp 10) (.tmp 34),none⟩]
def c59r9 : List GOp:=[
 gv 35 (.fadd 2 (.tmp 10)),
 gv 36 (.load 1 false (.tmp 35)),
 gv 37 (.len false (.tmp 36)),
 gv 38 (.bin .eql (.tmp 37) (.const (.int .i64 0)))]
def c59r10 : List GOp:=[
 gv 39 (.fadd 1 (.tmp 7)),
 gv 40 (.load 1 false (.tmp 39)),
 gv 41 (.mv (.tmp 0)),
 gv 42 (.nilck (.tmp 41)),
 gv 43 (.fadd 1 (.tmp 42)),
 gv 44 (.load 1 false (.tmp 43)),
 gv 45 (.fadd 3 (.tmp 10)),
 gv 46 (.load 1 false (.tmp 45)),
 gv 47 (.idxA 16 (.tmp 44) (.tmp 46)),
 gv 48 (.load 16 true (.tmp 47)),
 gv 49 (.bslice 45 16 1 (.agg #[(.bool false),(.bool false),(.bool false),oz,oz,oz,oz,oz,oz,oz,oz,oz,oz,oz,oz,oz]) [(0,(.tmp 48))]),
 gv 50 (.app 45 16 112 (.agg #[(.bool false),(.bool false),(.bool false),oz,oz,oz,oz,oz,oz,oz,oz,oz,oz,oz,oz,oz]) (.tmp 40) (.tmp 49)),
 gv 51 (.fadd 1 (.tmp 7))]
def c59r10z : GOp:=⟨none,.store 1 (.tmp 51) (.tmp 50),none⟩
def c59r11 : List GOp:=[
 gv 52 (.fadd 1 (.tmp 7)),
 gv 53 (.load 1 false (.tmp 52)),
 gv 54 (.len false (.tmp 53)),
 gv 55 (.bin .sub (.tmp 54) (.const (.int .i64 1))),
 gv 56 (.fadd 3 (.tmp 10)),
 ⟨none,.store 1 (.tmp 56) (.tmp 55),none⟩]
def c59r12 : List GOp:=[
 gv 57 (.fadd 2 (.tmp 10)),
 gv 58 (.load 1 false (.tmp 57)),
 gv 11 (.mv (.tmp 58))]
def c59r13 : List GOp:=[
 gv 59 (.fadd 2 (.tmp 10)),
 ⟨none,.store 1 (.tmp 59) (.const (.slice none 0 0)),none⟩]
def c59r14 : List GOp:=[
 gv 60 (.mv (.tmp 11)),
 gv 61 (.len false (.tmp 60)),
 gv 62 (.mv (.const (.int .i64 0)))]
def c59r15 : List GOp:=[
 gv 63 (.bin .lss (.tmp 62) (.tmp 61))]
def c59r16 : List GOp:=[
 gv 64 (.idxA 1 (.tmp 60) (.tmp 62)),
 gv 65 (.load 1 false (.tmp 64)),
 gv 13 (.mv (.tmp 65))]
def c59r17 : List GOp:=[
 gv 66 (.fadd 2 (.tmp 10)),
 gv 67 (.load 1 false (.tmp 66)),
 gv 68 (.load 1 false (.tmp 5)),
 gv 69 (.mv (.tmp 13)),
 gv 70 (.mget (.int .i64) false false oz (.tmp 68) (.tmp 69)),
 gv 71 (.bslice 3 1 1 oz [(0,(.tmp 70))]),
 gv 72 (.app 3 1 8 oz (.tmp 67) (.tmp 71)),
 gv 73 (.fadd 2 (.tmp 10)),
 ⟨none,.store 1 (.tmp 73) (.tmp 72),none⟩]
def c59r18 : List GOp:=[
 gv 74 (.bin .add (.tmp 62) (.const (.int .i64 1))),
 gv 62 (.mv (.tmp 74))]
def c59l19 : DE:=.seq (.reg c59r15) (.seq (.cond (.tmp 63) (.skip) (.exit 2)) (.seq (.block 3 (.seq (.reg c59r16) (.reg c59r17))) (.reg c59r18)))
def c59r20 : List GOp:=[
 gv 75 (.fadd 0 (.tmp 7)),
 gv 76 (.load 1 false (.tmp 75)),
 gv 77 (.load 4 true (.tmp 10)),
 gv 78 (.bslice 64 4 1 (.agg #[oz,(.slice none 0 0),(.slice none 0 0),oz]) [(0,(.tmp 77))]),
 gv 79 (.app 64 4 64 (.agg #[oz,(.slice none 0 0),(.slice none 0 0),oz]) (.tmp 76) (.tmp 78)),
 gv 80 (.fadd 0 (.tmp 7)),
 ⟨none,.store 1 (.tmp 80) (.tmp 79),none⟩]
def c59r21 : List GOp:=[
 gv 81 (.bin .add (.tmp 24) (.const (.int .i64 1))),
 gv 24 (.mv (.tmp 81))]
def c59l22 : DE:=.seq (.reg c59r6) (.seq (.cond (.tmp 25) (.skip) (.exit 0)) (.join (.block 1 (.seq (.reg c59r7) (.seq (.reg c59r8) (.join (.seq (.reg c59r9) (.cond (.tmp 38) (.seq (.hyl true true 11 c59r10 c59r10z) (.reg c59r11)) (.skip))) (.seq (.reg c59r12) (.seq (.reg c59r13) (.join (.seq (.reg c59r14) (.block 2 (.loop c59l19))) (.reg c59r20)))))))) (.reg c59r21)))
def c59r23 : List GOp:=[
 gv 82 (.load 2 true (.tmp 7)),
 ⟨none,.store 2 (.tmp 4) (.tmp 82),none⟩]
def c59 : EFn:=⟨83,.seq (.reg c59r0) (.seq (.reg c59r1) (.seq (.reg c59r2) (.join (.reg c59r3) (.seq (.reg c59r4) (.join (.seq (.reg c59r5) (.block 0 (.loop c59l22))) (.seq (.reg c59r23) (.ret))))))),[.cell 4 2 true]⟩
theorem c59_ok : compF Tryd.prog 59=some c59.er:=by kernel_rfl
def c24r0 : List GOp:=[
 gv 1 (.box 24 (.tmp 0)),
 gv 2 (.alloc 28 (.agg #[(.slice none 0 0),(.slice none 0 0)])),
 gv 3 (.mv (.const (.int .i64 0)))]
def c24r1 : List GOp:=[
 gv 13 (.load 1 true (.tmp 1)),
 gv 14 (.call 15 [(.tmp 13)]),
 gv 15 (.un .not (.tmp 14))]
def c24r2 : List GOp:=[
 gv 16 (.build (.agg #[(.slice none 0 0),(.slice none 0 0)]) []),
 ⟨none,.store 2 (.tmp 2) (.tmp 16),none⟩,
 gv 3 (.mv (.const (.int .i64 1)))]
def c24r3 : List GOp:=[
 gv 17 (.mkm .str false),
 gv 18 (.mkm .str false),
 gv 19 (.mkm (.agg [.bool,.bool,.bool,.int,.int,.int,.int,.int,.int,.int,.int,.int,.int,.int,.int,.int]) false),
 gv 20 (.build (.agg #[(.slice none 0 0),(.slice none 0 0),(.map none),(.map none),(.map none)]) [((2,1),(.tmp 17)),((3,1),(.tmp 18)),((4,1),(.tmp 19))]),
 gv 21 (.box 104 (.tmp 20)),
 gv 4 (.alloc 100 (.pointer none)),
 ⟨none,.store 1 (.tmp 4) (.tmp 21),none⟩]
def c24r4 : List GOp:=[
 gv 22 (.call 26 []),
 gv 5 (.alloc 57 (.agg #[oz,oz,oz,oz,oz,oz,oz,oz,oz,oz,oz,oz,oz,oz,oz,oz,oz,oz,oz,oz])),
 ⟨none,.store 20 (.tmp 5) (.tmp 22),none⟩]
def c24r5 : List GOp:=[
 gv 6 (.alloc 32 (.slice none 0 0))]
def c24r6 : List GOp:=[
 gv 23 (.fadd 0 (.tmp 1)),
 gv 24 (.load 1 false (.tmp 23)),
 gv 25 (.len false (.tmp 24)),
 gv 26 (.mv (.const (.int .i64 0)))]
def c24r7 : List GOp:=[
 gv 27 (.bin .lss (.tmp 26) (.tmp 25))]
def c24r8 : List GOp:=[
 gv 28 (.idxA 8 (.tmp 24) (.tmp 26)),
 gv 29 (.load 8 true (.tmp 28)),
 gv 8 (.alloc 36 (.agg #[oz,(.string ⟨#[]⟩),(.slice none 0 0),oz,oz,oz,oz,oz])),
 ⟨none,.store 8 (.tmp 8) (.tmp 29),none⟩]
def c24r9 : List GOp:=[
 gv 30 (.load 1 false (.tmp 6)),
 gv 31 (.fadd 2 (.tmp 8)),
 gv 32 (.load 1 false (.tmp 31)),
 gv 33 (.app 57 20 160 (.agg #[oz,oz,oz,oz,oz,oz,oz,oz,oz,oz,oz,oz,oz,oz,oz,oz,oz,oz,oz,oz]) (.tmp 30) (.tmp 32)),
 ⟨none,.store 1 (.tmp 6) (.tmp 33),none⟩]
def c24r10 : List GOp:=[
 gv 34 (.bin .add (.tmp 26) (.const (.int .i64 1))),
 gv 26 (.mv (.tmp 34))]
def c24l11 : DE:=.seq (.reg c24r7) (.seq (.cond (.tmp 27) (.skip) (.exit 0)) (.seq (.block 1 (.seq (.reg c24r8) (.reg c24r9))) (.reg c24r10)))
def c24r12 : List GOp:=[
 gv 9 (.alloc 105 .nilFunc)]
def c24r13 : List GOp:=[
 gv 35 (.mkfn (.func 55) [] [(.tmp 1),(.tmp 4),(.tmp 5),(.tmp 6),(.tmp 9)]),
 ⟨none,.store 1 (.tmp 9) (.tmp 35),none⟩]
def c24r14 : List GOp:=[
 gv 36 (.load 1 false (.tmp 6)),
 gv 37 (.len false (.tmp 36)),
 gv 38 (.mks 3 1 8 oz (.tmp 37) (.tmp 37)),
 gv 10 (.mv (.tmp 38))]
def c24r15 : List GOp:=[
 gv 39 (.mv (.tmp 10)),
 gv 40 (.len false (.tmp 39)),
 gv 41 (.mv (.const (.int .i64 0)))]
def c24r16 : List GOp:=[
 gv 42 (.bin .lss (.tmp 41) (.tmp 40))]
def c24r17 : List GOp:=[
 gv 43 (.mv (.tmp 41)),
 gv 11 (.mv (.tmp 43))]
def c24r18 : List GOp:=[
 gv 44 (.mv (.tmp 10)),
 gv 45 (.mv (.tmp 11)),
 gv 46 (.mv (.tmp 11)),
 gv 47 (.idxA 1 (.tmp 44) (.tmp 45)),
 ⟨none,.store 1 (.tmp 47) (.tmp 46),none⟩]
def c24r19 : List GOp:=[
 gv 48 (.bin .add (.tmp 41) (.const (.int .i64 1))),
 gv 41 (.mv (.tmp 48))]
def c24l20 : DE:=.seq (.reg c24r16) (.seq (.cond (.tmp 42) (.skip) (.exit 2)) (.seq (.block 3 (.seq (.reg c24r17) (.reg c24r18))) (.reg c24r19)))
def c24r21 : List GOp:=[
 gv 49 (.load 1 false (.tmp 9)),
 gv 50 (.mv (.tmp 10)),
 gv 51 (.build (.agg #[oz,oz,oz,oz,oz,oz,oz,oz,oz,oz]) []),
 gv 52 (.callv (.tmp 49) [(.const (.int .i64 0)),(.tmp 50),(.tmp 51)]),
 gv 12 (.mv (.tmp 52))]
def c24r22 : List GOp:=[
 gv 53 (.load 1 false (.tmp 4)),
 gv 54 (.nilck (.tmp 53)),
 gv 55 (.fadd 0 (.tmp 54)),
 gv 56 (.load 1 false (.tmp 55)),
 gv 57 (.len false (.tmp 56)),
 gv 58 (.bin .gtr (.tmp 57) (.const (.int .i64 20000)))]
def c24r23 : List GOp:=[
 gv 59 (.build (.agg #[(.slice none 0 0),(.slice none 0 0)]) []),
 ⟨none,.store 2 (.tmp 2) (.tmp 59),none⟩,
 gv 3 (.mv (.const (.int .i64 3)))]
def c24r24 : List GOp:=[
 gv 60 (.load 1 false (.tmp 4)),
 gv 61 (.mv (.tmp 12)),
 gv 62 (.call 59 [(.tmp 60),(.tmp 61)]),
 ⟨none,.store 2 (.tmp 2) (.tmp 62),none⟩,
 gv 3 (.mv (.const (.int .i64 0)))]
def c24 : EFn:=⟨63,.seq (.reg c24r0) (.seq (.seq (.reg c24r1) (.cond (.tmp 15) (.seq (.reg c24r2) (.ret)) (.skip))) (.seq (.reg c24r3) (.seq (.reg c24r4) (.seq (.reg c24r5) (.join (.seq (.reg c24r6) (.block 0 (.loop c24l11))) (.seq (.reg c24r12) (.seq (.reg c24r13) (.seq (.reg c24r14) (.join (.seq (.reg c24r15) (.block 2 (.loop c24l20))) (.join (.reg c24r21) (.seq (.seq (.reg c24r22) (.cond (.tmp 58) (.seq (.reg c24r23) (.ret)) (.skip))) (.seq (.reg c24r24) (.ret))))))))))))),[.cell 2 2 true,.tmp 3]⟩
theorem c24_ok : compF Tryd.prog 24=some c24.er:=by kernel_rfl
set_option maxHeartbeats 4000000 in
theorem table_Build_R {P:Program}(hP:P=Tryd.prog)(p:Policy)(r:Table×Int)(h:table_Build_g p=some r):Fn1 P 24 [vPolicy p] (.tup [vTable r.1,vIi64 r.2]):=by
 refine .walkE2 (hP▸c24_ok) fun K hK=>?_;unfold table_Build_g at h;cbv;refine .g h (fun v hv=>decide_Valid_R hP _ v hv) aw_ rfl (fun _=>rfl) fun v1 h=>?_;cbv;refine brkG h ?_ ?_<;>intro h
 ·cbv;obtain rfl:=oj h;exact hK _ _ aw_
 ·cbv;refine .g h (fun v hv=>resolve_Limits_R hP v hv) aw_ rfl (fun _=>rfl) fun v2 h=>?_;cbv;refine .g h (fun (zones3:(List (A10 Range)))=>[.top,.ptr 0 0,.ptr 1 0,.top,.ptr 2 0,.ptr 7 0,.ptr 8 0]++rp 56 .top) (fun zones3=>[.cells [.d (.sl (W eRule p.Rules))] 24,.cells [.d (.val (.slice none 0 0)),.d (.val (.slice none 0 0))] 28,.cells [.ptr 3 0] 100,.cells [.d (.val (.slice none 0 0)),.d (.val (.slice none 0 0)),.hd 4,.hd 5,.hd 6] 104,.mp .str false (WM Value.string eIi64 []),.mp .str false (WM Value.string eIi64 []),.mp (.agg [.bool,.bool,.bool,.int,.int,.int,.int,.int,.int,.int,.int,.int,.int,.int,.int,.int]) false (WM kwDecision eIi64 []),.cells (cR v2) 57,.cells [.hd 9] 32,.row 57 20 (W eA10Range zones3)]) (fun y hm Kn1 hKn1=>?_) fun t h=>?_
  ·have h:=hm;clear hm;cbv;refine .g h (fun ((zones4,v5):(List (A10 Range))×Int)=>[.top,.ptr 0 0,.ptr 1 0,.top,.ptr 2 0,.ptr 7 0,.ptr 8 0]++rp 17 .top++[.d (.sl (W eRule p.Rules)),oi (io.len (W eRule p.Rules)),oi v5]++rp 36 .top) (fun (zones4,v5)=>[.cells [.d (.sl (W eRule p.Rules))] 24,.cells [.d (.val (.slice none 0 0)),.d (.val (.slice none 0 0))] 28,.cells [.ptr 3 0] 100,.cells [.d (.val (.slice none 0 0)),.d (.val (.slice none 0 0)),.hd 4,.hd 5,.hd 6] 104,.mp .str false (WM Value.string eIi64 []),.mp .str false (WM Value.string eIi64 []),.mp (.agg [.bool,.bool,.bool,.int,.int,.int,.int,.int,.int,.int,.int,.int,.int,.int,.int,.int]) false (WM kwDecision eIi64 []),.cells (cR v2) 57,.cells [.hd 9] 32,.row 57 20 (W eA10Range zones4)]) (.nilcell 8 0 57 20 _ 32 rfl rfl (.nz (.mtE [0,1,6,5,2,3,4,7,8,9] ?_))) fun s x h hr2 Kn2 hKn2=>?_
   ·(cbv;repeat (refine⟨an_,?_⟩;cbv))
   unfold table_Build_l2 at h;obtain⟨zones4,v5⟩:=s;cbv;refine brkG h ?_ ?_<;>intro h
   ·cbv;refine .g h (fun _=>rfl) fun x6 h=>?_;cbv;refine .g h rfl (fun _=>rfl) (by decide) fun l7 h=>?_;cbv;obtain rfl:=oj h;refine hKn2 _ _ _ rfl (.nz (.mtE [0,1,2,3,4,5,6,7,8,11] ?_));(cbv;repeat (refine⟨an_,?_⟩;cbv))
   ·cbv;obtain rfl:=oj h;obtain rfl:=hr2 _ rfl;refine hKn1 _ _ _ rfl (.nz (.mtE [0,1,2,3,4,5,6,7,8,9] ?_));(cbv;repeat (refine⟨an_,?_⟩;cbv))
  obtain⟨zones3,rfl⟩:=ez t;cbv;refine .g (e:=eIi64) h aw_ (by decide) fun l8 h=>?_;cbv;refine .g h (fun (all9:(List Int))=>[.top,.top,.ptr 0 0,.top,.ptr 1 0]++rp 4 .top++[.ptr 6 0,.hd 11]++rp 52 .top) (fun all9=>[.cells [.d (.val (.slice none 0 0)),.d (.val (.slice none 0 0))] 28,.cells [.ptr 2 0] 100,.cells [.d (.val (.slice none 0 0)),.d (.val (.slice none 0 0)),.hd 3,.hd 4,.hd 5] 104,.mp .str false (WM Value.string eIi64 []),.mp .str false (WM Value.string eIi64 []),.mp (.agg [.bool,.bool,.bool,.int,.int,.int,.int,.int,.int,.int,.int,.int,.int,.int,.int,.int]) false (WM kwDecision eIi64 []),.cells [.clo (.func 55) [] [.ptr 7 0,.ptr 1 0,.ptr 8 0,.ptr 9 0,.ptr 6 0]] 105,.cells [.d (.sl (W eRule p.Rules))] 24,.cells (cR v2) 57,.cells [.hd 10] 32,.row 57 20 (W eA10Range zones3),.row 3 1 (W eIi64 all9)]) (fun y hm Kn1 hKn1=>?_) fun t h=>?_
  ·have h:=hm;clear hm;cbv;refine .g h (fun ((all10,v11):(List Int)×Int)=>[.top,.top,.ptr 0 0,.top,.ptr 1 0]++rp 4 .top++[.ptr 6 0,.hd 11]++rp 29 .top++[oi (io.len (W eIi64 l8)),oi v11]++rp 21 .top) (fun (all10,v11)=>[.cells [.d (.val (.slice none 0 0)),.d (.val (.slice none 0 0))] 28,.cells [.ptr 2 0] 100,.cells [.d (.val (.slice none 0 0)),.d (.val (.slice none 0 0)),.hd 3,.hd 4,.hd 5] 104,.mp .str false (WM Value.string eIi64 []),.mp .str false (WM Value.string eIi64 []),.mp (.agg [.bool,.bool,.bool,.int,.int,.int,.int,.int,.int,.int,.int,.int,.int,.int,.int,.int]) false (WM kwDecision eIi64 []),.cells [.clo (.func 55) [] [.ptr 7 0,.ptr 1 0,.ptr 8 0,.ptr 9 0,.ptr 6 0]] 105,.cells [.d (.sl (W eRule p.Rules))] 24,.cells (cR v2) 57,.cells [.hd 10] 32,.row 57 20 (W eA10Range zones3),.row 3 1 (W eIi64 all10)]) (.nz (.mtE [1,2,3,4,5,6,10,0,7,8,9,11] ?_)) fun s x h hr2 Kn2 hKn2=>?_
   ·(cbv;repeat (refine⟨an_,?_⟩;cbv))
   unfold table_Build_l4 at h;obtain⟨all10,v11⟩:=s;cbv;refine brkG h ?_ ?_<;>intro h
   ·cbv;refine .g h fun i12 h=>?_;cbv;refine .g h (fun _=>by first | rfl | exact W_nil _ | (cbv;simp only[W_nilx])) fun l14 h=>?_;cbv;obtain rfl:=oj h;refine hKn2 _ _ _ rfl (.nz (.mtE [0,1,2,3,4,5,6,7,8,9,10,11] ?_));(cbv;repeat (refine⟨an_,?_⟩;cbv))
   ·cbv;obtain rfl:=oj h;obtain rfl:=hr2 _ rfl;refine hKn1 _ _ _ rfl (.nz (.mtE [0,1,2,3,4,5,6,7,8,9,10,11] ?_));(cbv;repeat (refine⟨an_,?_⟩;cbv))
  obtain⟨all9,rfl⟩:=ez t;cbv;refine .g h (fun ((nodes15,leaves16,known17,made18,leaf19,root20):(List Node)×(List Decision)×(List (ByteArray×Int))×(List (ByteArray×Int))×(List (Decision×Int))×Int)=>[.top,.top,.ptr 0 0,.top,.ptr 1 0]++rp 7 .top++[oi root20]++rp 50 .top) (fun (nodes15,leaves16,known17,made18,leaf19,root20)=>[.cells [.d (.val (.slice none 0 0)),.d (.val (.slice none 0 0))] 28,.cells [.ptr 2 0] 100,.cells [.hd 3,.d (.sl (W eDecision leaves16)),.hd 4,.hd 5,.hd 6] 104,.row 64 4 (W eNode nodes15),.mp .str false (WM Value.string eIi64 known17),.mp .str false (WM Value.string eIi64 made18),.mp (.agg [.bool,.bool,.bool,.int,.int,.int,.int,.int,.int,.int,.int,.int,.int,.int,.int,.int]) false (WM kwDecision eIi64 leaf19)]) (fun y hm Kn1 hKn1=>?_) fun t h=>?_
  ·have h:=hm;clear hm;cbv;refine .nilcell 2 0 64 4 _ 104 rfl rfl ?_;refine .nilcell 2 1 45 16 _ 104 rfl rfl ?_;refine .frzh [.hd 10] ?_;obtain⟨r21,hm,h⟩:=Option.bind_eq_some_iff.1 h;refine .embL [7,1,2,12,13,3,4,5,8,9,6] (tbuild_all hP p.Rules v2 zones3 11 _ _ _ _ _ _ _ _ _ hm) (by (cbv;repeat (refine⟨an_,?_⟩;cbv))) fun sv0 own0 hq _=>?_;obtain⟨rfl,rfl⟩:=hq;clear hm;cbv;obtain rfl:=oj h;refine hKn1 _ _ _ rfl (.frz [.hd 15] (.nz (.mtE [0,1,2,14,3,4,5] ?_)));(cbv;repeat (refine⟨an_,?_⟩;cbv))
  obtain⟨nodes15,leaves16,known17,made18,leaf19,root20⟩:=t;cbv;refine brkG h ?_ ?_<;>intro h
  ·cbv;obtain rfl:=oj h;exact hK _ _ aw_
  ·cbv;refine .inl (hP▸c59_ok) ?_;cbv;refine .g h (fun ((number22,order23):(List (Int×Int))×(List Int))=>[.ptr 2 0]++rp 3 .top++[.ptr 7 0,.ptr 8 0,.ptr 10 0]++rp 76 .top) (fun (number22,order23)=>[.cells [.d (.val (.slice none 0 0)),.d (.val (.slice none 0 0))] 28,.cells [.ptr 2 0] 100,.cells [.hd 3,.d (.sl (W eDecision leaves16)),.hd 4,.hd 5,.hd 6] 104,.row 64 4 (W eNode nodes15),.mp .str false (WM Value.string eIi64 known17),.mp .str false (WM Value.string eIi64 made18),.mp (.agg [.bool,.bool,.bool,.int,.int,.int,.int,.int,.int,.int,.int,.int,.int,.int,.int,.int]) false (WM kwDecision eIi64 leaf19),.cells [.d (.val (.slice none 0 0)),.d (.val (.slice none 0 0))] 28,.cells [.hd 9] 135,.mp (.int .i64) false (WM (Value.int .i64) eIi64 number22),.cells [.hd 11] 62,.row 3 1 (W eIi64 order23)]) (fun y hm Kn1 hKn1=>?_) fun t h=>?_
   ·have h:=hm;clear hm;cbv;refine .inl (hP▸c40_ok) ?_;cbv;refine .nilcell 10 0 3 1 _ 62 rfl rfl ?_;obtain⟨r24,hm,h⟩:=Option.bind_eq_some_iff.1 h;refine .embL [14,13,12,10,16,9,8,11,3,15] (walkT_all hP nodes15 11 _ _ _ _ _ hm) (by (cbv;repeat (refine⟨an_,?_⟩;cbv))) fun sv0 own0 hq _=>?_;obtain⟨rfl,rfl⟩:=hq;clear hm;cbv;obtain rfl:=oj h;refine hKn1 _ _ _ rfl (.nz (.mtE [0,1,2,3,4,5,6,7,9,8,10,17] ?_));(cbv;repeat (refine⟨an_,?_⟩;cbv))
   obtain⟨number22,order23⟩:=t;cbv;refine .g h (fun ((Nodes25,Leaves26):(List Node)×(List Decision))=>rp 4 .top++[.ptr 7 0,.top,.top,.ptr 8 0]++rp 75 .top) (fun (Nodes25,Leaves26)=>[.cells [.d (.val (.slice none 0 0)),.d (.val (.slice none 0 0))] 28,.cells [.ptr 2 0] 100,.cells [.hd 3,.d (.sl (W eDecision leaves16)),.hd 4,.hd 5,.hd 6] 104,.row 64 4 (W eNode nodes15),.mp .str false (WM Value.string eIi64 known17),.mp .str false (WM Value.string eIi64 made18),.mp (.agg [.bool,.bool,.bool,.int,.int,.int,.int,.int,.int,.int,.int,.int,.int,.int,.int,.int]) false (WM kwDecision eIi64 leaf19),.cells [.d (.val (.slice none 0 0)),.d (.val (.slice none 0 0))] 28,.cells [.hd 9,.hd 10] 28,.row 64 4 (W eNode Nodes25),.row 45 16 (W eDecision Leaves26)]) (fun y hm Kn1 hKn1=>?_) fun t h=>?_
   ·have h:=hm;clear hm;cbv;refine .g h (fun ((Nodes27,Leaves28,v29):(List Node)×(List Decision)×Int)=>[.ptr 2 0]++rp 3 .top++[.ptr 7 0,.ptr 8 0,.top,.ptr 10 0]++rp 14 .top++[.hd 13,oi (io.len (W eIi64 order23)),oi v29]++rp 58 .top) (fun (Nodes27,Leaves28,v29)=>[.cells [.d (.val (.slice none 0 0)),.d (.val (.slice none 0 0))] 28,.cells [.ptr 2 0] 100,.cells [.hd 3,.d (.sl (W eDecision leaves16)),.hd 4,.hd 5,.hd 6] 104,.row 64 4 (W eNode nodes15),.mp .str false (WM Value.string eIi64 known17),.mp .str false (WM Value.string eIi64 made18),.mp (.agg [.bool,.bool,.bool,.int,.int,.int,.int,.int,.int,.int,.int,.int,.int,.int,.int,.int]) false (WM kwDecision eIi64 leaf19),.cells [.d (.val (.slice none 0 0)),.d (.val (.slice none 0 0))] 28,.cells [.hd 9] 135,.mp (.int .i64) false (WM (Value.int .i64) eIi64 number22),.cells [.hd 11,.hd 12] 28,.row 64 4 (W eNode Nodes27),.row 45 16 (W eDecision Leaves28),.row 3 1 (W eIi64 order23)]) (.nilcell 12 0 64 4 _ 28 rfl rfl (.nilcell 12 1 45 16 _ 28 rfl rfl (.nz (.mtE [0,1,2,3,4,5,6,7,8,9,12,13,14,11] ?_)))) fun s x h hr2 Kn2 hKn2=>?_
    ·(cbv;repeat (refine⟨an_,?_⟩;cbv))
    unfold table_Build_l26 at h;obtain⟨Nodes27,Leaves28,v29⟩:=s;cbv;refine brkG h ?_ ?_<;>intro h
    ·cbv;refine .g h (fun ((Nodes30,Leaves31):(List Node)×(List Decision))=>[.ptr 2 0]++rp 3 .top++[.ptr 7 0,.ptr 8 0,.top,.ptr 10 0]++rp 14 .top++[.hd 13,oi (io.len (W eIi64 order23)),oi v29]++rp 58 .top) (fun (Nodes30,Leaves31)=>[.cells [.d (.val (.slice none 0 0)),.d (.val (.slice none 0 0))] 28,.cells [.ptr 2 0] 100,.cells [.hd 3,.d (.sl (W eDecision leaves16)),.hd 4,.hd 5,.hd 6] 104,.row 64 4 (W eNode nodes15),.mp .str false (WM Value.string eIi64 known17),.mp .str false (WM Value.string eIi64 made18),.mp (.agg [.bool,.bool,.bool,.int,.int,.int,.int,.int,.int,.int,.int,.int,.int,.int,.int,.int]) false (WM kwDecision eIi64 leaf19),.cells [.d (.val (.slice none 0 0)),.d (.val (.slice none 0 0))] 28,.cells [.hd 9] 135,.mp (.int .i64) false (WM (Value.int .i64) eIi64 number22),.cells [.hd 11,.hd 12] 28,.row 64 4 (W eNode Nodes30),.row 45 16 (W eDecision Leaves31),.row 3 1 (W eIi64 order23)]) (fun y hm Kn3 hKn3=>?_) fun t h=>?_
     ·have h:=hm;clear hm;cbv;refine .g h fun ix32 h=>?_;cbv;refine .g h fun v33 h=>?_;cbv;refine .g h fun i34 h=>?_;cbv;refine .g h fun v35 h=>?_;cbv;refine .g h (fun ((Leaves36,Leaf37):(List Decision)×Int)=>[.ptr 2 0]++rp 3 .top++[.ptr 7 0,.ptr 8 0,.top,.ptr 10 0,.top,.top,.ptr 13 0]++rp 11 .top++[.hd 14,oi (io.len (W eIi64 order23)),oi v29]++rp 58 .top) (fun (Leaves36,Leaf37)=>[.cells [.d (.val (.slice none 0 0)),.d (.val (.slice none 0 0))] 28,.cells [.ptr 2 0] 100,.cells [.hd 3,.d (.sl (W eDecision leaves16)),.hd 4,.hd 5,.hd 6] 104,.row 64 4 (W eNode nodes15),.mp .str false (WM Value.string eIi64 known17),.mp .str false (WM Value.string eIi64 made18),.mp (.agg [.bool,.bool,.bool,.int,.int,.int,.int,.int,.int,.int,.int,.int,.int,.int,.int,.int]) false (WM kwDecision eIi64 leaf19),.cells [.d (.val (.slice none 0 0)),.d (.val (.slice none 0 0))] 28,.cells [.hd 9] 135,.mp (.int .i64) false (WM (Value.int .i64) eIi64 number22),.cells [.hd 11,.hd 12] 28,.row 64 4 (W eNode Nodes27),.row 45 16 (W eDecision Leaves36),.cells [oi v35.Attr,.d (.sl (W eIi64 v35.Cuts)),.d (.sl (W eIi64 v35.Kids)),oi Leaf37] 64,.row 3 1 (W eIi64 order23)]) (fun y hm Kn4 hKn4=>?_) fun t h=>?_
      ·have h:=hm;clear hm;cbv;refine brkG h ?_ ?_<;>intro h
       ·cbv;refine .g h (fun _=>rfl) fun x38 h=>?_;cbv;refine .g (e:=eDecision) h (W_cons aw_ (W_nil' _)) fun l39 h=>?_;cbv;refine .g h rfl (fun _=>rfl) (by decide) fun l40 h=>?_;cbv;obtain rfl:=oj h;refine hKn4 _ _ _ rfl (.nz (.mtE [0,1,2,3,4,5,6,7,8,9,10,11,15,14,13] ?_));(cbv;repeat (refine⟨an_,?_⟩;cbv))
       ·cbv;obtain rfl:=oj h;refine hKn4 _ _ _ rfl (.nz (.mtE [0,1,2,3,4,5,6,7,8,9,10,11,12,14,13] ?_));(cbv;repeat (refine⟨an_,?_⟩;cbv))
      obtain⟨Leaves36,Leaf37⟩:=t;cbv;refine .g h (fun (Kids41:(List Int))=>[.ptr 2 0]++rp 3 .top++[.ptr 7 0,.ptr 8 0,.top,.ptr 10 0,.top,.top,.ptr 13 0]++rp 11 .top++[.hd 15,oi (io.len (W eIi64 order23)),oi v29]++rp 58 .top) (fun Kids41=>[.cells [.d (.val (.slice none 0 0)),.d (.val (.slice none 0 0))] 28,.cells [.ptr 2 0] 100,.cells [.hd 3,.d (.sl (W eDecision leaves16)),.hd 4,.hd 5,.hd 6] 104,.row 64 4 (W eNode nodes15),.mp .str false (WM Value.string eIi64 known17),.mp .str false (WM Value.string eIi64 made18),.mp (.agg [.bool,.bool,.bool,.int,.int,.int,.int,.int,.int,.int,.int,.int,.int,.int,.int,.int]) false (WM kwDecision eIi64 leaf19),.cells [.d (.val (.slice none 0 0)),.d (.val (.slice none 0 0))] 28,.cells [.hd 9] 135,.mp (.int .i64) false (WM (Value.int .i64) eIi64 number22),.cells [.hd 11,.hd 12] 28,.row 64 4 (W eNode Nodes27),.row 45 16 (W eDecision Leaves36),.cells [oi v35.Attr,.d (.sl (W eIi64 v35.Cuts)),.hd 14,oi Leaf37] 64,.row 3 1 (W eIi64 Kids41),.row 3 1 (W eIi64 order23)]) (fun y hm Kn4 hKn4=>?_) fun t h=>?_
      ·have h:=hm;clear hm;cbv;refine .g h (fun ((Kids42,v43):(List Int)×Int)=>[.ptr 2 0]++rp 3 .top++[.ptr 7 0,.ptr 8 0,.top,.ptr 10 0,.top,.top,.ptr 13 0]++rp 11 .top++[.hd 15,oi (io.len (W eIi64 order23)),oi v29]++rp 35 .top++[.d (.sl (W eIi64 v35.Kids)),oi (io.len (W eIi64 v35.Kids)),oi v43]++rp 20 .top) (fun (Kids42,v43)=>[.cells [.d (.val (.slice none 0 0)),.d (.val (.slice none 0 0))] 28,.cells [.ptr 2 0] 100,.cells [.hd 3,.d (.sl (W eDecision leaves16)),.hd 4,.hd 5,.hd 6] 104,.row 64 4 (W eNode nodes15),.mp .str false (WM Value.string eIi64 known17),.mp .str false (WM Value.string eIi64 made18),.mp (.agg [.bool,.bool,.bool,.int,.int,.int,.int,.int,.int,.int,.int,.int,.int,.int,.int,.int]) false (WM kwDecision eIi64 leaf19),.cells [.d (.val (.slice none 0 0)),.d (.val (.slice none 0 0))] 28,.cells [.hd 9] 135,.mp (.int .i64) false (WM (Value.int .i64) eIi64 number22),.cells [.hd 11,.hd 12] 28,.row 64 4 (W eNode Nodes27),.row 45 16 (W eDecision Leaves36),.cells [oi v35.Attr,.d (.sl (W eIi64 v35.Cuts)),.hd 14,oi Leaf37] 64,.row 3 1 (W eIi64 Kids42),.row 3 1 (W eIi64 order23)]) (.nilcell 13 2 3 1 _ 64 rfl rfl (.nz (.mtE [0,1,2,3,4,5,6,7,8,9,10,11,12,13,15,14] ?_))) fun s x h hr5 Kn5 hKn5=>?_
       ·(cbv;repeat (refine⟨an_,?_⟩;cbv))
       unfold table_Build_l30 at h;obtain⟨Kids42,v43⟩:=s;cbv;refine brkG h ?_ ?_<;>intro h
       ·cbv;refine .g h (fun _=>rfl) fun x44 h=>?_;cbv;refine .gi (e:=eIi64) h (by first | rfl | exact WM_nil' _ _) (fun h=>h) fun y45 h=>?_;cbv;refine .g (e:=eIi64) h (W_cons aw_ (W_nil' _)) fun l46 h=>?_;cbv;refine .g h rfl (fun _=>rfl) (by decide) fun l47 h=>?_;cbv;obtain rfl:=oj h;refine hKn5 _ _ _ rfl (.nz (.mtE [0,1,2,3,4,5,6,7,8,9,10,11,12,13,17,15] ?_));(cbv;repeat (refine⟨an_,?_⟩;cbv))
       ·cbv;obtain rfl:=oj h;obtain rfl:=hr5 _ rfl;refine hKn4 _ _ _ rfl (.nz (.mtE [0,1,2,3,4,5,6,7,8,9,10,11,12,13,14,15] ?_));(cbv;repeat (refine⟨an_,?_⟩;cbv))
      obtain⟨Kids41,rfl⟩:=ez t;cbv;refine .g (e:=eNode) h (W_cons aw_ (W_nil' _)) fun l48 h=>?_;cbv;refine .g h rfl (fun _=>rfl) (by decide) fun l49 h=>?_;cbv;obtain rfl:=oj h;refine hKn3 _ _ _ rfl (.nz (.mtE [0,1,2,3,4,5,6,7,8,9,10,17,12,15] ?_));(cbv;repeat (refine⟨an_,?_⟩;cbv))
     obtain⟨Nodes30,Leaves31⟩:=t;cbv;obtain rfl:=oj h;refine hKn2 _ _ _ rfl (.nz (.mtE [0,1,2,3,4,5,6,7,8,9,10,11,12,13] ?_));(cbv;repeat (refine⟨an_,?_⟩;cbv))
    ·cbv;obtain rfl:=oj h;obtain rfl:=hr2 _ rfl;refine hKn1 _ _ _ rfl (.nz (.mtE [0,1,2,3,4,5,6,7,10,11,12] ?_));(cbv;repeat (refine⟨an_,?_⟩;cbv))
   obtain⟨Nodes25,Leaves26⟩:=t;cbv;obtain rfl:=oj h;exact hK _ _ aw_
end Go.SX.Td
namespace Go.SX.Td
open Go Go.SX Go.Proofs
set_option maxRecDepth 100000
def c73r0 : List GOp:=[
 gv 4 (.mv (.const (.bool false)))]
def c73r1 : List GOp:=[
 gv 6 (.mv (.tmp 0)),
 gv 7 (.len false (.tmp 6)),
 gv 8 (.mv (.tmp 1)),
 gv 9 (.len false (.tmp 8)),
 gv 10 (.bin .neq (.tmp 7) (.tmp 9))]
def c73r2 : List GOp:=[
 gv 4 (.mv (.const (.bool false)))]
def c73r3 : List GOp:=[
 gv 5 (.mv (.const (.int .i64 0)))]
def c73r4 : List GOp:=[
 gv 11 (.mv (.tmp 5)),
 gv 12 (.mv (.tmp 0)),
 gv 13 (.len false (.tmp 12)),
 gv 14 (.bin .lss (.tmp 11) (.tmp 13))]
def c73r5 : List GOp:=[
 gv 17 (.mv (.tmp 0)),
 gv 18 (.mv (.tmp 5)),
 gv 19 (.idxA 1 (.tmp 17) (.tmp 18)),
 gv 20 (.load 1 false (.tmp 19)),
 gv 21 (.mv (.tmp 1)),
 gv 22 (.mv (.tmp 5)),
 gv 23 (.idxA 1 (.tmp 21) (.tmp 22)),
 gv 24 (.load 1 false (.tmp 23)),
 gv 25 (.bin .neq (.tmp 20) (.tmp 24))]
def c73r6 : List GOp:=[
 gv 4 (.mv (.const (.bool false)))]
def c73r7 : List GOp:=[
 gv 15 (.mv (.tmp 5)),
 gv 16 (.bin .add (.tmp 15) (.const (.int .i64 1))),
 gv 5 (.mv (.tmp 16))]
def c73l8 : DE:=.seq (.seq (.reg c73r4) (.cond (.tmp 14) (.skip) (.exit 0))) (.seq (.block 1 (.seq (.par true true true 8 c73r5) (.cond (.tmp 25) (.seq (.reg c73r6) (.ret)) (.skip)))) (.reg c73r7))
def c73r9 : List GOp:=[
 gv 4 (.mv (.const (.bool true)))]
def c73 : EFn:=⟨26,.seq (.reg c73r0) (.seq (.seq (.reg c73r1) (.cond (.tmp 10) (.seq (.reg c73r2) (.ret)) (.skip))) (.join (.seq (.reg c73r3) (.block 0 (.loop c73l8))) (.seq (.reg c73r9) (.ret)))),[.tmp 4]⟩
theorem c73_ok : compF Tryd.prog 73=some c73.er:=by kernel_rfl
set_option maxHeartbeats 4000000 in
theorem ref11_Ints_R {P:Program}(hP:P=Tryd.prog)(a:(List Int))(b:(List Int))(r:Bool)(h:ref11_Ints_g a b=some r):Fn1 P 73 [vLIi64 a,vLIi64 b] (vB r):=by
 refine .walkE (hP▸c73_ok) fun K hK=>?_;unfold ref11_Ints_g at h;cbv;refine brkG h ?_ ?_<;>intro h
 ·cbv;obtain rfl:=oj h;exact hK _ _ aw_
 ·cbv;refine .ga h (fun (_:Unit)=>rp 26 .top) (fun _=>[]) (fun y hm hr1 Kn1 hKn1=>?_) fun t h=>?_
  ·have h:=hm;clear hm;cbv;refine .g h (fun (i1:Int)=>[.d (.sl (W eIi64 a)),.d (.sl (W eIi64 b))]++rp 3 .top++[oi i1]++rp 20 .top) (fun i1=>[]) (.nz (.mtE [] ?_)) fun s x h hr2 Kn2 hKn2=>?_
   ·(cbv;repeat (refine⟨an_,?_⟩;cbv))
   unfold ref11_Ints_l2 at h;obtain⟨i1,rfl⟩:=ez s;cbv;refine brkG h ?_ ?_<;>intro h
   ·cbv;refine .g h (fun _=>rfl) fun x2 h=>?_;cbv;refine .g h (fun _=>rfl) fun x3 h=>?_;cbv;refine brkG h ?_ ?_<;>intro h
    ·cbv;obtain rfl:=oj h;obtain rfl:=hr2 _ rfl;obtain rfl:=hr1 _ rfl;exact hK _ _ aw_
    ·cbv;obtain rfl:=oj h;refine hKn2 _ _ _ rfl (.nz (.mtE [] ?_));(cbv;repeat (refine⟨an_,?_⟩;cbv))
   ·cbv;obtain rfl:=oj h;obtain rfl:=hr2 _ rfl;refine hKn1 _ _ _ rfl (.nz (.mtE [] ?_));(cbv;repeat (refine⟨an_,?_⟩;cbv))
  cbv;obtain rfl:=oj h;exact hK _ _ aw_
end Go.SX.Td
namespace Go.SX.Td
open Go Go.SX Go.Proofs
set_option maxRecDepth 100000
def c54r0 : List GOp:=[
 gv 2 (.box 64 (.tmp 0)),
 gv 3 (.box 64 (.tmp 1)),
 gv 4 (.mv (.const (.bool false)))]
def c54r1 : List GOp:=[
 gv 5 (.fadd 0 (.tmp 2)),
 gv 6 (.load 1 false (.tmp 5)),
 gv 7 (.fadd 0 (.tmp 3)),
 gv 8 (.load 1 false (.tmp 7)),
 gv 9 (.bin .eql (.tmp 6) (.tmp 8)),
 gv 10 (.mv (.tmp 9)),
 gw 11 10 true (.fadd 3 (.tmp 2)),
 gw 12 10 true (.load 1 false (.tmp 11)),
 gw 13 10 true (.fadd 3 (.tmp 3)),
 gw 14 10 true (.load 1 false (.tmp 13)),
 gw 15 10 true (.bin .eql (.tmp 12) (.tmp 14)),
 gv 16 (.pick (.tmp 10) (.tmp 15) (.const (.bool false))),
 gv 17 (.mv (.tmp 16)),
 gw 18 17 true (.fadd 1 (.tmp 2)),
 gw 19 17 true (.load 1 false (.tmp 18)),
 gw 20 17 true (.fadd 1 (.tmp 3)),
 gw 21 17 true (.load 1 false (.tmp 20)),
 gw 22 17 true (.call 73 [(.tmp 19),(.tmp 21)]),
 gv 23 (.pick (.tmp 17) (.tmp 22) (.const (.bool false))),
 gv 24 (.mv (.tmp 23)),
 gw 25 24 true (.fadd 2 (.tmp 2)),
 gw 26 24 true (.load 1 false (.tmp 25)),
 gw 27 24 true (.fadd 2 (.tmp 3)),
 gw 28 24 true (.load 1 false (.tmp 27)),
 gw 29 24 true (.call 73 [(.tmp 26),(.tmp 28)]),
 gv 30 (.pick (.tmp 24) (.tmp 29) (.const (.bool false))),
 gv 4 (.mv (.tmp 30))]
def c54 : EFn:=⟨31,.seq (.reg c54r0) (.seq (.reg c54r1) (.ret)),[.tmp 4]⟩
theorem c54_ok : compF Tryd.prog 54=some c54.er:=by kernel_rfl
set_option maxHeartbeats 4000000 in
theorem ref14_Equal_R {P:Program}(hP:P=Tryd.prog)(a:Node)(b:Node)(r:Bool)(h:ref14_Equal_g a b=some r):Fn1 P 54 [vNode a,vNode b] (vB r):=by
 refine .walkE (hP▸c54_ok) fun K hK=>?_;unfold ref14_Equal_g at h;cbv;refine brkG h ?_ ?_<;>intro h
 ·cbv;refine brkG h ?_ ?_<;>intro h
  ·cbv;refine .g h (fun v hv=>ref11_Ints_R hP _ _ v hv) aw_ rfl (fun _=>rfl) fun v1 h=>?_;cbv;refine brkG h ?_ ?_<;>intro h
   ·cbv;refine .g h (fun v hv=>ref11_Ints_R hP _ _ v hv) aw_ rfl (fun _=>rfl) fun v2 h=>?_;cbv;obtain rfl:=oj h;exact hK _ _ aw_
   ·cbv;obtain rfl:=oj h;exact hK _ _ aw_
  ·cbv;obtain rfl:=oj h;exact hK _ _ aw_
 ·cbv;obtain rfl:=oj h;exact hK _ _ aw_
end Go.SX.Td
