/- Parts of the proof. -/
import Derived.Test.YtllbabjgpdmblaaDoorZTdT
import Derived.Test.YtllbabjgpdmblaaDoorZTd19
import Derived.Test.YtllbabjgpdmblaaDoorZTdKey
import Derived.Test.YtllbabjgpdmblaaDoorZTdCompact
import Derived.Test.YtllbabjgpdmblaaDoorZTd20d
import Derived.Test.YtllbabjgpdmblaaDoorZTd15
import Derived.Test.YtllbabjgpdmblaaDoorZTd17
import Derived.Test.YtllbabjgpdmblaaDoorZTdSbuildd
set_option linter.unusedSimpArgs false
set_option linter.unusedVariables false
set_option linter.unusedSectionVars false
namespace Go.SX.Td
open Go Go.SX Go.Proofs
set_option maxRecDepth 100000
def c37r0 : List GOp:=[
 gv 8 (.mv (.const (.bool false)))]
def c37r1 : List GOp:=[
 gv 17 (.mv (.tmp 1)),
 gv 18 (.bin .eql (.tmp 17) (.const (.int .i64 10)))]
def c37r2 : List GOp:=[
 gv 19 (.mv (.tmp 0)),
 gv 20 (.nilck (.tmp 19)),
 gv 21 (.fadd 1 (.tmp 20)),
 gv 22 (.fadd 1 (.tmp 21)),
 gv 23 (.load 1 false (.tmp 22)),
 gv 24 (.mv (.tmp 0)),
 gv 25 (.nilck (.tmp 24)),
 gv 26 (.fadd 1 (.tmp 25)),
 gv 27 (.fadd 0 (.tmp 26)),
 gv 28 (.load 1 false (.tmp 27)),
 gv 29 (.mv (.tmp 3)),
 gv 30 (.idxA 4 (.tmp 28) (.tmp 29)),
 gv 31 (.fadd 3 (.tmp 30)),
 gv 32 (.load 1 false (.tmp 31)),
 gv 33 (.idxA 16 (.tmp 23) (.tmp 32)),
 gv 34 (.load 16 true (.tmp 33)),
 gv 35 (.mv (.tmp 0)),
 gv 36 (.nilck (.tmp 35)),
 gv 37 (.fadd 0 (.tmp 36)),
 gv 38 (.load 1 true (.tmp 37)),
 gv 39 (.mv (.tmp 0)),
 gv 40 (.nilck (.tmp 39)),
 gv 41 (.fadd 23 (.tmp 40)),
 gv 42 (.load 10 true (.tmp 41)),
 gv 43 (.call 19 [(.tmp 38),(.tmp 42)]),
 gv 44 (.beq true [.bool,.bool,.bool,.int,.int,.int,.int,.int,.int,.int,.int,.int,.int,.int,.int,.int] (.tmp 34) (.tmp 43)),
 gv 8 (.mv (.tmp 44))]
def c37r3 : List GOp:=[
 gv 45 (.mv (.tmp 1)),
 gv 46 (.mv (.tmp 3)),
 gv 47 (.mv (.tmp 2)),
 gv 48 (.call 63 [(.tmp 45),(.tmp 46),(.tmp 47)]),
 gv 9 (.mv (.tmp 48))]
def c37r4 : List GOp:=[
 gv 49 (.mv (.tmp 0)),
 gv 50 (.nilck (.tmp 49)),
 gv 51 (.fadd 33 (.tmp 50)),
 gv 52 (.load 1 false (.tmp 51)),
 gv 53 (.mv (.tmp 9)),
 gv 54 (.mget .str false false (.bool false) (.tmp 52) (.tmp 53))]
def c37r5 : List GOp:=[
 gv 8 (.mv (.const (.bool false)))]
def c37r6 : List GOp:=[
 gv 55 (.mv (.tmp 0)),
 gv 56 (.mv (.tmp 1)),
 gv 57 (.mv (.tmp 2)),
 gv 58 (.mv (.tmp 3)),
 gv 59 (.call 64 [(.tmp 55),(.tmp 56),(.tmp 57),(.tmp 58)]),
 gv 60 (.len false (.tmp 59)),
 gv 61 (.mv (.const (.int .i64 0)))]
def c37r7 : List GOp:=[
 gv 62 (.bin .lss (.tmp 61) (.tmp 60))]
def c37r8 : List GOp:=[
 gv 63 (.idxA 1 (.tmp 59) (.tmp 61)),
 gv 64 (.load 1 false (.tmp 63)),
 gv 11 (.mv (.tmp 64))]
def c37r9 : List GOp:=[
 gv 65 (.mv (.tmp 0)),
 gv 66 (.mv (.tmp 1)),
 gv 67 (.mv (.tmp 11)),
 gv 68 (.nilck (.tmp 65)),
 gv 69 (.fadd 23 (.tmp 68)),
 gv 70 (.idxP 10 1 (.tmp 69) (.tmp 66)),
 ⟨none,.store 1 (.tmp 70) (.tmp 67),none⟩]
def c37r10 : List GOp:=[
 gv 12 (.mv (.const (.slice none 0 0)))]
def c37r11 : List GOp:=[
 gv 71 (.mv (.tmp 2)),
 gv 72 (.len false (.tmp 71)),
 gv 73 (.mv (.const (.int .i64 0)))]
def c37r12 : List GOp:=[
 gv 74 (.bin .lss (.tmp 73) (.tmp 72))]
def c37r13 : List GOp:=[
 gv 75 (.idxA 2 (.tmp 71) (.tmp 73)),
 gv 76 (.load 2 true (.tmp 75)),
 gv 14 (.alloc 82 (.agg #[oz,oz])),
 ⟨none,.store 2 (.tmp 14) (.tmp 76),none⟩]
def c37r14 : List GOp:=[
 gv 77 (.mv (.tmp 0)),
 gv 78 (.nilck (.tmp 77)),
 gv 79 (.fadd 0 (.tmp 78)),
 gv 80 (.fadd 0 (.tmp 79)),
 gv 81 (.load 1 false (.tmp 80)),
 gv 82 (.fadd 0 (.tmp 14)),
 gv 83 (.load 1 false (.tmp 82)),
 gv 84 (.idxA 8 (.tmp 81) (.tmp 83)),
 gv 85 (.fadd 2 (.tmp 84)),
 gv 86 (.load 1 false (.tmp 85)),
 gv 87 (.fadd 1 (.tmp 14)),
 gv 88 (.load 1 false (.tmp 87)),
 gv 89 (.mv (.tmp 1)),
 gv 90 (.idxA 20 (.tmp 86) (.tmp 88)),
 gv 91 (.idxP 10 2 (.tmp 90) (.tmp 89)),
 gv 92 (.load 2 true (.tmp 91)),
 gv 15 (.alloc 55 (.agg #[oz,oz])),
 ⟨none,.store 2 (.tmp 15) (.tmp 92),none⟩]
def c37r15 : List GOp:=[
 gv 93 (.mv (.tmp 11)),
 gv 94 (.fadd 0 (.tmp 15)),
 gv 95 (.load 1 false (.tmp 94)),
 gv 96 (.bin .geq (.tmp 93) (.tmp 95)),
 gv 97 (.mv (.tmp 96)),
 gw 98 97 true (.mv (.tmp 11)),
 gw 99 97 true (.fadd 1 (.tmp 15)),
 gw 100 97 true (.load 1 false (.tmp 99)),
 gw 101 97 true (.bin .leq (.tmp 98) (.tmp 100)),
 gv 102 (.pick (.tmp 97) (.tmp 101) (.const (.bool false)))]
def c37r16 : List GOp:=[
 gv 103 (.mv (.tmp 12)),
 gv 104 (.load 2 true (.tmp 14)),
 gv 105 (.bslice 82 2 1 (.agg #[oz,oz]) [(0,(.tmp 104))]),
 gv 106 (.app 82 2 16 (.agg #[oz,oz]) (.tmp 103) (.tmp 105)),
 gv 12 (.mv (.tmp 106))]
def c37r17 : List GOp:=[
 gv 107 (.bin .add (.tmp 73) (.const (.int .i64 1))),
 gv 73 (.mv (.tmp 107))]
def c37l18 : DE:=.seq (.reg c37r12) (.seq (.cond (.tmp 74) (.skip) (.exit 2)) (.join (.block 3 (.seq (.reg c37r13) (.join (.par true true true 17 c37r14) (.join (.reg c37r15) (.cond (.tmp 102) (.reg c37r16) (.skip)))))) (.reg c37r17)))
def c37r19 : List GOp:=[
 gv 108 (.mv (.tmp 3)),
 gv 16 (.mv (.tmp 108))]
def c37r20 : List GOp:=[
 gv 109 (.mv (.tmp 0)),
 gv 110 (.mv (.tmp 3)),
 gv 111 (.mv (.tmp 1)),
 gv 112 (.call 65 [(.tmp 109),(.tmp 110),(.tmp 111)])]
def c37r21 : List GOp:=[
 gv 113 (.mv (.tmp 0)),
 gv 114 (.mv (.tmp 3)),
 gv 115 (.mv (.tmp 11)),
 gv 116 (.call 66 [(.tmp 113),(.tmp 114),(.tmp 115)]),
 gv 16 (.mv (.tmp 116))]
def c37r22 : List GOp:=[
 gv 117 (.mv (.tmp 0)),
 gv 118 (.mv (.tmp 1)),
 gv 119 (.bin .add (.tmp 118) (.const (.int .i64 1))),
 gv 120 (.mv (.tmp 12)),
 gv 121 (.mv (.tmp 16)),
 gv 122 (.call 37 [(.tmp 117),(.tmp 119),(.tmp 120),(.tmp 121)])]
def c37r23 : List GOp:=[
 gv 8 (.mv (.const (.bool true)))]
def c37r24 : List GOp:=[
 gv 123 (.bin .add (.tmp 61) (.const (.int .i64 1))),
 gv 61 (.mv (.tmp 123))]
def c37l25 : DE:=.seq (.reg c37r7) (.seq (.cond (.tmp 62) (.skip) (.exit 0)) (.join (.block 1 (.seq (.reg c37r8) (.join (.reg c37r9) (.seq (.reg c37r10) (.join (.seq (.reg c37r11) (.block 2 (.loop c37l18))) (.seq (.reg c37r19) (.join (.join (.reg c37r20) (.cond (.tmp 112) (.reg c37r21) (.skip))) (.join (.reg c37r22) (.cond (.tmp 122) (.seq (.reg c37r23) (.ret)) (.skip)))))))))) (.reg c37r24)))
def c37r26 : List GOp:=[
 gv 124 (.mv (.tmp 0)),
 gv 125 (.nilck (.tmp 124)),
 gv 126 (.fadd 33 (.tmp 125)),
 gv 127 (.load 1 false (.tmp 126)),
 gv 128 (.mv (.tmp 9)),
 ⟨none,.mset .str false (.tmp 127) (.tmp 128) (.const (.bool true)),none⟩]
def c37r27 : List GOp:=[
 gv 8 (.mv (.const (.bool false)))]
def c37 : EFn:=⟨129,.seq (.reg c37r0) (.seq (.seq (.reg c37r1) (.cond (.tmp 18) (.seq (.par false false false 25 c37r2) (.ret)) (.skip))) (.seq (.reg c37r3) (.seq (.seq (.reg c37r4) (.cond (.tmp 54) (.seq (.reg c37r5) (.ret)) (.skip))) (.join (.join (.reg c37r6) (.block 0 (.loop c37l25))) (.seq (.reg c37r26) (.seq (.reg c37r27) (.ret))))))),[.tmp 8]⟩
theorem c37_ok : compF Tryd.prog 37=some c37.er:=by kernel_rfl
set_option maxHeartbeats 8000000 in
theorem tdiff_R {P:Program}(hP:P=Tryd.prog)(rules:(List Rule))(nodes:(List Node))(leaves:(List Decision))(limits:(A10 Range))(rec:(Int→(List Live)→Int→(A10 Int)→(List (ByteArray×Bool))→Option (Bool×(A10 Int)×(List (ByteArray×Bool)))))(attr:Int)(zones:(List Live))(node:Int)(facts:(A10 Int))(equal:(List (ByteArray×Bool)))(hrec:∀ attr zones node facts equal r,rec attr zones node facts equal=some r→SCall P 37 [.cells ([.d (.sl (W eRule rules)),.d (.sl (W eNode nodes)),.d (.sl (W eDecision leaves))]++cR limits++(ca facts++[.hd 1])) 79,.mp .str false (WM Value.string eB equal)] [.ptr 0 0,oi attr,.d (.sl (W eLive zones)),oi node] (fun sv own'=>sv=ob r.1∧own'=[.cells ([.d (.sl (W eRule rules)),.d (.sl (W eNode nodes)),.d (.sl (W eDecision leaves))]++cR limits++(ca r.2.1++[.hd 1])) 79,.mp .str false (WM Value.string eB r.2.2)]))(r:Bool×(A10 Int)×(List (ByteArray×Bool)))(h:tdiff_b rules nodes leaves limits rec attr zones node facts equal=some r):SCall P 37 [.cells ([.d (.sl (W eRule rules)),.d (.sl (W eNode nodes)),.d (.sl (W eDecision leaves))]++cR limits++(ca facts++[.hd 1])) 79,.mp .str false (WM Value.string eB equal)] [.ptr 0 0,oi attr,.d (.sl (W eLive zones)),oi node] (fun sv own'=>sv=ob r.1∧own'=[.cells ([.d (.sl (W eRule rules)),.d (.sl (W eNode nodes)),.d (.sl (W eDecision leaves))]++cR limits++(ca r.2.1++[.hd 1])) 79,.mp .str false (WM Value.string eB r.2.2)]):=by
 refine .walkG 2 rfl (Nat.le_of_ble_eq_true rfl) (hP▸c37_ok) fun K hK=>?_;unfold tdiff_b at h;cbv;refine brkG h ?_ ?_<;>intro h
 ·cbv;refine .g h (fun _=>rfl) fun x1 h=>?_;cbv;refine .g h (fun _=>rfl) fun x2 h=>?_;cbv;refine .g h (fun v hv=>decide_Decide_R hP _ _ v hv) aw_ rfl (fun _=>rfl) fun v3 h=>?_;cbv;obtain rfl:=oj h;refine hK _ _ [0,1] ?_;(cbv;repeat (refine⟨an_,?_⟩;cbv))
 ·cbv;refine .g h (fun v hv=>verify_key_R hP _ _ _ v hv) aw_ rfl (fun _=>rfl) fun k4 h=>?_;cbv;refine .gs (e:=eB) h (by first | rfl | exact WM_nil' _ _) (fun h=>h) fun y5 h=>?_;cbv;refine brkG h ?_ ?_<;>intro h
  ·cbv;obtain rfl:=oj h;refine hK _ _ [0,1] ?_;(cbv;repeat (refine⟨an_,?_⟩;cbv))
  ·cbv;refine .ga h (fun ((facts6,own7):(A10 Int)×(List (ByteArray×Bool)))=>[.ptr 0 0]++rp 8 .top++[.d (.val (.string k4))]++rp 119 .top) (fun (facts6,own7)=>[.cells ([.d (.sl (W eRule rules)),.d (.sl (W eNode nodes)),.d (.sl (W eDecision leaves))]++cR limits++(ca facts6++[.hd 1])) 79,.mp .str false (WM Value.string eB own7)]) (fun y hm hr1 Kn1 hKn1=>?_) fun t h=>?_
   ·have h:=hm;clear hm;cbv;refine .g h (fun ((v8,v9):(List Int)×Int)=>[.ptr 0 0,oi attr,.d (.sl (W eLive zones)),oi node]++rp 5 .top++[.d (.val (.string k4))]++rp 49 .top++[.d (.sl (W eIi64 v8)),oi v9,oi 0]++rp 67 .top) (fun (v8,v9)=>[.cells ([.d (.sl (W eRule rules)),.d (.sl (W eNode nodes)),.d (.sl (W eDecision leaves))]++cR limits++(ca facts++[.hd 1])) 79,.mp .str false (WM Value.string eB equal)]) (fun y hm Kn2 hKn2=>?_) fun t h=>?_
    ·have h:=hm;clear hm;cbv;obtain⟨r10,hm,h⟩:=Option.bind_eq_some_iff.1 h;refine .embL [0,1] (tvals_R hP _ _ _ _ _ _ _ _ _ _ hm) (by (cbv;repeat (refine⟨an_,?_⟩;cbv))) fun sv0 own0 hq _=>?_;obtain⟨rfl,rfl⟩:=hq;clear hm;cbv;obtain rfl:=oj h;refine hKn2 _ _ _ rfl (.nz (.mtE [0,1] ?_));(cbv;repeat (refine⟨an_,?_⟩;cbv))
    obtain⟨v8,v9⟩:=t;cbv;refine .g h (fun ((facts11,own12,v13):(A10 Int)×(List (ByteArray×Bool))×Int)=>[.ptr 0 0,oi attr,.d (.sl (W eLive zones)),oi node]++rp 5 .top++[.d (.val (.string k4))]++rp 49 .top++[.d (.sl (W eIi64 v8)),oi v9,oi v13]++rp 67 .top) (fun (facts11,own12,v13)=>[.cells ([.d (.sl (W eRule rules)),.d (.sl (W eNode nodes)),.d (.sl (W eDecision leaves))]++cR limits++(ca facts11++[.hd 1])) 79,.mp .str false (WM Value.string eB own12)]) (.nz (.mtE [0,1] ?_)) fun s x h hr2 Kn2 hKn2=>?_
    ·(cbv;repeat (refine⟨an_,?_⟩;cbv))
    unfold tdiff_l22 at h;obtain⟨facts11,own12,v13⟩:=s;cbv;refine brkG h ?_ ?_<;>intro h
    ·cbv;refine .ga h (fun ((facts14,own15):(A10 Int)×(List (ByteArray×Bool)))=>[.ptr 0 0,oi attr,.d (.sl (W eLive zones)),oi node]++rp 5 .top++[.d (.val (.string k4))]++rp 49 .top++[.d (.sl (W eIi64 v8)),oi v9,oi v13]++rp 67 .top) (fun (facts14,own15)=>[.cells ([.d (.sl (W eRule rules)),.d (.sl (W eNode nodes)),.d (.sl (W eDecision leaves))]++cR limits++(ca facts14++[.hd 1])) 79,.mp .str false (WM Value.string eB own15)]) (fun y hm hr3 Kn3 hKn3=>?_) fun t h=>?_
     ·have h:=hm;clear hm;cbv;refine .g h (fun _=>rfl) fun x16 h=>?_;cbv;refine .g h (fun (facts17:(A10 Int))=>[.ptr 0 0,oi attr,.d (.sl (W eLive zones)),oi node]++rp 5 .top++[.d (.val (.string k4)),.top,oi x16]++rp 47 .top++[.d (.sl (W eIi64 v8)),oi v9,oi v13]++rp 67 .top) (fun facts17=>[.cells ([.d (.sl (W eRule rules)),.d (.sl (W eNode nodes)),.d (.sl (W eDecision leaves))]++cR limits++(ca facts17++[.hd 1])) 79,.mp .str false (WM Value.string eB own12)]) (fun y hm Kn4 hKn4=>?_) fun t h=>?_
      ·have h:=hm;clear hm;cbv
       refine .c10 h ?_ ?_ ?_ ?_ ?_ ?_ ?_ ?_ ?_ ?_<;>(
        intro hni18 h;cbv;obtain rfl:=oj h;refine hKn4 _ _ _ rfl (.nz (.mtE [0,1] ?_));(cbv;repeat (refine⟨an_,?_⟩;cbv))
        )
      obtain⟨facts17,rfl⟩:=ez t;cbv;refine .g h (fun (rest19:(List Live))=>[.ptr 0 0,oi attr,.d (.sl (W eLive zones)),oi node]++rp 5 .top++[.d (.val (.string k4)),.top,oi x16,.hd 2]++rp 46 .top++[.d (.sl (W eIi64 v8)),oi v9,oi v13]++rp 67 .top) (fun rest19=>[.cells ([.d (.sl (W eRule rules)),.d (.sl (W eNode nodes)),.d (.sl (W eDecision leaves))]++cR limits++(ca facts17++[.hd 1])) 79,.mp .str false (WM Value.string eB own12),.row 82 2 (W eLive rest19)]) (fun y hm Kn4 hKn4=>?_) fun t h=>?_
      ·have h:=hm;clear hm;cbv;refine .g h (fun ((rest20,v21):(List Live)×Int)=>[.ptr 0 0,oi attr,.d (.sl (W eLive zones)),oi node]++rp 5 .top++[.d (.val (.string k4)),.top,oi x16,.hd 2]++rp 46 .top++[.d (.sl (W eIi64 v8)),oi v9,oi v13]++rp 9 .top++[.d (.sl (W eLive zones)),oi (io.len (W eLive zones)),oi v21]++rp 55 .top) (fun (rest20,v21)=>[.cells ([.d (.sl (W eRule rules)),.d (.sl (W eNode nodes)),.d (.sl (W eDecision leaves))]++cR limits++(ca facts17++[.hd 1])) 79,.mp .str false (WM Value.string eB own12),.row 82 2 (W eLive rest20)]) (.nilr 12 82 2 rfl (.nz (.mtE [0,1,2] ?_))) fun s x h hr5 Kn5 hKn5=>?_
       ·(cbv;repeat (refine⟨an_,?_⟩;cbv))
       unfold tdiff_l26 at h;obtain⟨rest20,v21⟩:=s;cbv;refine brkG h ?_ ?_<;>intro h
       ·cbv;refine .g h (fun (rest22:(List Live))=>[.ptr 0 0,oi attr,.d (.sl (W eLive zones)),oi node]++rp 5 .top++[.d (.val (.string k4)),.top,oi x16,.hd 2]++rp 46 .top++[.d (.sl (W eIi64 v8)),oi v9,oi v13]++rp 9 .top++[.d (.sl (W eLive zones)),oi (io.len (W eLive zones)),oi v21]++rp 55 .top) (fun rest22=>[.cells ([.d (.sl (W eRule rules)),.d (.sl (W eNode nodes)),.d (.sl (W eDecision leaves))]++cR limits++(ca facts17++[.hd 1])) 79,.mp .str false (WM Value.string eB own12),.row 82 2 (W eLive rest22)]) (fun y hm Kn6 hKn6=>?_) fun t h=>?_
        ·have h:=hm;clear hm;cbv;refine .g h (fun _=>rfl) fun x23 h=>?_;cbv;refine .g h (fun ((Lo24,Hi25):Int×Int)=>[.ptr 0 0,oi attr,.d (.sl (W eLive zones)),oi node]++rp 5 .top++[.d (.val (.string k4)),.top,oi x16,.hd 2,.top,.ptr 3 0,.ptr 4 0]++rp 43 .top++[.d (.sl (W eIi64 v8)),oi v9,oi v13]++rp 9 .top++[.d (.sl (W eLive zones)),oi (io.len (W eLive zones)),oi v21]++rp 55 .top) (fun (Lo24,Hi25)=>[.cells ([.d (.sl (W eRule rules)),.d (.sl (W eNode nodes)),.d (.sl (W eDecision leaves))]++cR limits++(ca facts17++[.hd 1])) 79,.mp .str false (WM Value.string eB own12),.row 82 2 (W eLive rest20),.cells [oi x23.rule,oi x23.zone] 82,.cells [oi Lo24,oi Hi25] 55]) (fun y hm Kn7 hKn7=>?_) fun t h=>?_
         ·have h:=hm;clear hm;cbv;refine .g h (fun _=>rfl) fun x26 h=>?_;cbv;refine .g h (fun _=>rfl) fun x27 h=>?_;cbv
          refine .c10 h ?_ ?_ ?_ ?_ ?_ ?_ ?_ ?_ ?_ ?_<;>(
           intro hni28 h;cbv;obtain rfl:=oj h;refine hKn7 _ _ _ rfl (.nz (.mtE [0,1,2,3,4] ?_));(cbv;repeat (refine⟨an_,?_⟩;cbv))
           )
         obtain⟨Lo24,Hi25⟩:=t;cbv;refine .g h (fun (v29:Bool)=>[.ptr 0 0,oi attr,.d (.sl (W eLive zones)),oi node]++rp 5 .top++[.d (.val (.string k4)),.top,oi x16,.hd 2,.top,.ptr 3 0]++rp 44 .top++[.d (.sl (W eIi64 v8)),oi v9,oi v13]++rp 9 .top++[.d (.sl (W eLive zones)),oi (io.len (W eLive zones)),oi v21]++rp 28 .top++[ob v29]++rp 26 .top) (fun v29=>[.cells ([.d (.sl (W eRule rules)),.d (.sl (W eNode nodes)),.d (.sl (W eDecision leaves))]++cR limits++(ca facts17++[.hd 1])) 79,.mp .str false (WM Value.string eB own12),.row 82 2 (W eLive rest20),.cells [oi x23.rule,oi x23.zone] 82]) (fun y hm Kn7 hKn7=>?_) fun t h=>?_
         ·have h:=hm;clear hm;cbv;refine brkG h ?_ ?_<;>intro h
          ·cbv;obtain rfl:=oj h;refine hKn7 _ _ _ rfl (.nz (.mtE [0,1,2,3] ?_));(cbv;repeat (refine⟨an_,?_⟩;cbv))
          ·cbv;obtain rfl:=oj h;refine hKn7 _ _ _ rfl (.nz (.mtE [0,1,2,3] ?_));(cbv;repeat (refine⟨an_,?_⟩;cbv))
         obtain⟨v29,rfl⟩:=ez t;cbv;refine brkG h ?_ ?_<;>intro h
         ·cbv;refine .g (e:=eLive) h (W_cons aw_ (W_nil' _)) fun l30 h=>?_;cbv;refine .g h rfl (fun _=>rfl) (by decide) fun rest31 h=>?_;cbv;obtain rfl:=oj h;refine hKn6 _ _ _ rfl (.nz (.mtE [0,1,5] ?_));(cbv;repeat (refine⟨an_,?_⟩;cbv))
         ·cbv;obtain rfl:=oj h;refine hKn6 _ _ _ rfl (.nz (.mtE [0,1,2] ?_));(cbv;repeat (refine⟨an_,?_⟩;cbv))
        obtain⟨rest22,rfl⟩:=ez t;cbv;obtain rfl:=oj h;refine hKn5 _ _ _ rfl (.nz (.mtE [0,1,2] ?_));(cbv;repeat (refine⟨an_,?_⟩;cbv))
       ·cbv;obtain rfl:=oj h;obtain rfl:=hr5 _ rfl;refine hKn4 _ _ _ rfl (.nz (.mtE [0,1,2] ?_));(cbv;repeat (refine⟨an_,?_⟩;cbv))
      obtain⟨rest19,rfl⟩:=ez t;cbv;refine .g h (fun (next32:Int)=>[.ptr 0 0,oi attr,.d (.sl (W eLive zones)),oi node]++rp 5 .top++[.d (.val (.string k4)),.top,.top,.hd 2]++rp 3 .top++[oi next32]++rp 42 .top++[.d (.sl (W eIi64 v8)),oi v9,oi v13]++rp 67 .top) (fun next32=>[.cells ([.d (.sl (W eRule rules)),.d (.sl (W eNode nodes)),.d (.sl (W eDecision leaves))]++cR limits++(ca facts17++[.hd 1])) 79,.mp .str false (WM Value.string eB own12),.row 82 2 (W eLive rest19)]) (fun y hm Kn4 hKn4=>?_) fun t h=>?_
      ·have h:=hm;clear hm;cbv;refine .g h (fun (v33:Bool)=>[.ptr 0 0,oi attr,.d (.sl (W eLive zones)),oi node]++rp 5 .top++[.d (.val (.string k4)),.top,oi x16,.hd 2]++rp 3 .top++[oi node]++rp 42 .top++[.d (.sl (W eIi64 v8)),oi v9,oi v13]++rp 50 .top++[ob v33]++rp 16 .top) (fun v33=>[.cells ([.d (.sl (W eRule rules)),.d (.sl (W eNode nodes)),.d (.sl (W eDecision leaves))]++cR limits++(ca facts17++[.hd 1])) 79,.mp .str false (WM Value.string eB own12),.row 82 2 (W eLive rest19)]) (fun y hm Kn5 hKn5=>?_) fun t h=>?_
       ·have h:=hm;clear hm;cbv;refine .inl (hP▸c65_ok) ?_;cbv;refine .g h (fun _=>rfl) fun x34 h=>?_;cbv;refine brkG h ?_ ?_<;>intro h
        ·cbv;refine .g h (fun _=>rfl) fun x35 h=>?_;cbv;obtain rfl:=oj h;refine hKn5 _ _ _ rfl (.nz (.mtE [0,1,2] ?_));(cbv;repeat (refine⟨an_,?_⟩;cbv))
        ·cbv;obtain rfl:=oj h;refine hKn5 _ _ _ rfl (.nz (.mtE [0,1,2] ?_));(cbv;repeat (refine⟨an_,?_⟩;cbv))
       obtain⟨v33,rfl⟩:=ez t;cbv;refine brkG h ?_ ?_<;>intro h
       ·cbv;obtain⟨r36,hm,h⟩:=Option.bind_eq_some_iff.1 h;refine .embL [0,1] (tkid_R hP _ _ _ _ _ _ _ _ _ hm) (by (cbv;repeat (refine⟨an_,?_⟩;cbv))) fun sv0 own0 hq _=>?_;obtain⟨rfl,rfl⟩:=hq;clear hm;cbv;obtain rfl:=oj h;refine hKn4 _ _ _ rfl (.nz (.mtE [0,1,2] ?_));(cbv;repeat (refine⟨an_,?_⟩;cbv))
       ·cbv;obtain rfl:=oj h;refine hKn4 _ _ _ rfl (.nz (.mtE [0,1,2] ?_));(cbv;repeat (refine⟨an_,?_⟩;cbv))
      obtain⟨next32,rfl⟩:=ez t;cbv;refine .g h (fun ((facts37,own38,v39):(A10 Int)×(List (ByteArray×Bool))×Bool)=>[.ptr 0 0,oi attr,.d (.sl (W eLive zones)),oi node]++rp 5 .top++[.d (.val (.string k4))]++rp 49 .top++[.d (.sl (W eIi64 v8)),oi v9,oi v13]++rp 60 .top++[ob v39]++rp 6 .top) (fun (facts37,own38,v39)=>[.cells ([.d (.sl (W eRule rules)),.d (.sl (W eNode nodes)),.d (.sl (W eDecision leaves))]++cR limits++(ca facts37++[.hd 1])) 79,.mp .str false (WM Value.string eB own38)]) (fun y hm Kn4 hKn4=>?_) fun t h=>?_
      ·have h:=hm;clear hm;cbv;obtain⟨r40,hm,h⟩:=Option.bind_eq_some_iff.1 h;refine .embL [0,1] (hrec _ _ _ _ _ _ hm) (by (cbv;repeat (refine⟨an_,?_⟩;cbv))) fun sv0 own0 hq _=>?_;obtain⟨rfl,rfl⟩:=hq;clear hm;cbv;obtain rfl:=oj h;refine hKn4 _ _ _ rfl (.nz (.mtE [0,1] ?_));(cbv;repeat (refine⟨an_,?_⟩;cbv))
      obtain⟨facts37,own38,v39⟩:=t;cbv;refine brkG h ?_ ?_<;>intro h
      ·cbv;obtain rfl:=oj h;obtain rfl:=hr3 _ rfl;obtain rfl:=hr2 _ rfl;obtain rfl:=hr1 _ rfl;refine hK _ _ [0,1] ?_;(cbv;repeat (refine⟨an_,?_⟩;cbv))
      ·cbv;obtain rfl:=oj h;refine hKn3 _ _ _ rfl (.nz (.mtE [0,1] ?_));(cbv;repeat (refine⟨an_,?_⟩;cbv))
     obtain⟨facts14,own15⟩:=t;cbv;obtain rfl:=oj h;refine hKn2 _ _ _ rfl (.nz (.mtE [0,1] ?_));(cbv;repeat (refine⟨an_,?_⟩;cbv))
    ·cbv;obtain rfl:=oj h;obtain rfl:=hr2 _ rfl;refine hKn1 _ _ _ rfl (.nz (.mtE [0,1] ?_));(cbv;repeat (refine⟨an_,?_⟩;cbv))
   obtain⟨facts6,own7⟩:=t;cbv;refine .gs (e:=eB) h (by first | rfl | exact WM_nil' _ _) aw_ fun m41 h=>?_;cbv;obtain rfl:=oj h;refine hK _ _ [0,1] ?_;(cbv;repeat (refine⟨an_,?_⟩;cbv))
theorem tdiff_all {P:Program}(hP:P=Tryd.prog)(rules:(List Rule))(nodes:(List Node))(leaves:(List Decision))(limits:(A10 Range)):∀ (n:Nat)(attr:Int)(zones:(List Live))(node:Int)(facts:(A10 Int))(equal:(List (ByteArray×Bool)))(r:Bool×(A10 Int)×(List (ByteArray×Bool))),tdiff rules nodes leaves limits n attr zones node facts equal=some r→SCall P 37 [.cells ([.d (.sl (W eRule rules)),.d (.sl (W eNode nodes)),.d (.sl (W eDecision leaves))]++cR limits++(ca facts++[.hd 1])) 79,.mp .str false (WM Value.string eB equal)] [.ptr 0 0,oi attr,.d (.sl (W eLive zones)),oi node] (fun sv own'=>sv=ob r.1∧own'=[.cells ([.d (.sl (W eRule rules)),.d (.sl (W eNode nodes)),.d (.sl (W eDecision leaves))]++cR limits++(ca r.2.1++[.hd 1])) 79,.mp .str false (WM Value.string eB r.2.2)])
 | 0,_,_,_,_,_,_,h=>by cases h
 | n+1,attr,zones,node,facts,equal,r,h=>tdiff_R hP rules nodes leaves limits _ attr zones node facts equal (tdiff_all hP rules nodes leaves limits n) r h
end Go.SX.Td
namespace Go.SX.Td
open Go Go.SX Go.Proofs
set_option maxRecDepth 100000
def c16r0 : List GOp:=[
 gv 2 (.box 24 (.tmp 0)),
 gv 3 (.box 28 (.tmp 1)),
 gv 4 (.alloc 38 (.agg #[oz,oz,oz,oz,oz,oz,oz,oz,oz,oz])),
 gv 5 (.mv (.const (.bool false)))]
def c16r1 : List GOp:=[
 gv 11 (.load 1 true (.tmp 2)),
 gv 12 (.call 15 [(.tmp 11)]),
 gv 13 (.un .not (.tmp 12)),
 gv 14 (.mv (.tmp 13)),
 gw 15 14 false (.load 2 true (.tmp 3)),
 gw 16 14 false (.call 17 [(.tmp 15)]),
 gw 17 14 false (.un .not (.tmp 16)),
 gv 18 (.pick (.tmp 14) (.const (.bool true)) (.tmp 17))]
def c16r2 : List GOp:=[
 gv 19 (.build (.agg #[oz,oz,oz,oz,oz,oz,oz,oz,oz,oz]) []),
 ⟨none,.store 10 (.tmp 4) (.tmp 19),none⟩,
 gv 5 (.mv (.const (.bool true)))]
def c16r3 : List GOp:=[
 gv 20 (.load 1 true (.tmp 2)),
 gv 21 (.load 2 true (.tmp 3)),
 gv 22 (.call 26 []),
 gv 23 (.mkm .str false)]
def c16r3z : List GOp:=[
 gv 24 (.build (.agg #[(.slice none 0 0),(.slice none 0 0),(.slice none 0 0),oz,oz,oz,oz,oz,oz,oz,oz,oz,oz,oz,oz,oz,oz,oz,oz,oz,oz,oz,oz,oz,oz,oz,oz,oz,oz,oz,oz,oz,oz,(.map none)]) [((0,1),(.tmp 20)),((1,2),(.tmp 21)),((3,20),(.tmp 22)),((33,1),(.tmp 23))]),
 gv 25 (.box 79 (.tmp 24)),
 gv 6 (.mv (.tmp 25))]
def c16r4 : List GOp:=[
 gv 7 (.mv (.const (.slice none 0 0)))]
def c16r5 : List GOp:=[
 gv 26 (.fadd 0 (.tmp 2)),
 gv 27 (.load 1 false (.tmp 26)),
 gv 28 (.len false (.tmp 27)),
 gv 29 (.mv (.const (.int .i64 0)))]
def c16r6 : List GOp:=[
 gv 30 (.bin .lss (.tmp 29) (.tmp 28))]
def c16r7 : List GOp:=[
 gv 31 (.mv (.tmp 29)),
 gv 32 (.idxA 8 (.tmp 27) (.tmp 29)),
 gv 33 (.load 8 true (.tmp 32)),
 gv 9 (.alloc 36 (.agg #[oz,(.string ⟨#[]⟩),(.slice none 0 0),oz,oz,oz,oz,oz])),
 gv 8 (.mv (.tmp 31)),
 ⟨none,.store 8 (.tmp 9) (.tmp 33),none⟩]
def c16r8 : List GOp:=[
 gv 34 (.fadd 2 (.tmp 9)),
 gv 35 (.load 1 false (.tmp 34)),
 gv 36 (.len false (.tmp 35)),
 gv 37 (.mv (.const (.int .i64 0)))]
def c16r9 : List GOp:=[
 gv 38 (.bin .lss (.tmp 37) (.tmp 36))]
def c16r10 : List GOp:=[
 gv 39 (.mv (.tmp 37)),
 gv 10 (.mv (.tmp 39))]
def c16r11 : List GOp:=[
 gv 40 (.mv (.tmp 7)),
 gv 41 (.mv (.tmp 8)),
 gv 42 (.mv (.tmp 10)),
 gv 43 (.build (.agg #[oz,oz]) [((0,1),(.tmp 41)),((1,1),(.tmp 42))]),
 gv 44 (.bslice 82 2 1 (.agg #[oz,oz]) [(0,(.tmp 43))]),
 gv 45 (.app 82 2 16 (.agg #[oz,oz]) (.tmp 40) (.tmp 44)),
 gv 7 (.mv (.tmp 45))]
def c16r12 : List GOp:=[
 gv 46 (.bin .add (.tmp 37) (.const (.int .i64 1))),
 gv 37 (.mv (.tmp 46))]
def c16l13 : DE:=.seq (.reg c16r9) (.seq (.cond (.tmp 38) (.skip) (.exit 2)) (.seq (.block 3 (.seq (.reg c16r10) (.reg c16r11))) (.reg c16r12)))
def c16r14 : List GOp:=[
 gv 47 (.bin .add (.tmp 29) (.const (.int .i64 1))),
 gv 29 (.mv (.tmp 47))]
def c16l15 : DE:=.seq (.reg c16r6) (.seq (.cond (.tmp 30) (.skip) (.exit 0)) (.join (.block 1 (.seq (.reg c16r7) (.seq (.reg c16r8) (.block 2 (.loop c16l13))))) (.reg c16r14)))
def c16r16 : List GOp:=[
 gv 48 (.mv (.tmp 6)),
 gv 49 (.mv (.tmp 7)),
 gv 50 (.call 37 [(.tmp 48),(.const (.int .i64 0)),(.tmp 49),(.const (.int .i64 0))]),
 gv 51 (.un .not (.tmp 50))]
def c16r17 : List GOp:=[
 gv 52 (.build (.agg #[oz,oz,oz,oz,oz,oz,oz,oz,oz,oz]) []),
 ⟨none,.store 10 (.tmp 4) (.tmp 52),none⟩,
 gv 5 (.mv (.const (.bool false)))]
def c16r18 : List GOp:=[
 gv 53 (.mv (.tmp 6)),
 gv 54 (.nilck (.tmp 53)),
 gv 55 (.fadd 23 (.tmp 54)),
 gv 56 (.load 10 true (.tmp 55)),
 ⟨none,.store 10 (.tmp 4) (.tmp 56),none⟩,
 gv 5 (.mv (.const (.bool true)))]
def c16 : EFn:=⟨57,.seq (.reg c16r0) (.seq (.join (.reg c16r1) (.cond (.tmp 18) (.seq (.reg c16r2) (.ret)) (.skip))) (.seq (.sfm false false false 3 c16r3 c16r3z) (.seq (.reg c16r4) (.join (.seq (.reg c16r5) (.block 0 (.loop c16l15))) (.seq (.join (.reg c16r16) (.cond (.tmp 51) (.seq (.reg c16r17) (.ret)) (.skip))) (.seq (.reg c16r18) (.ret))))))),[.cell 4 10 true,.tmp 5]⟩
theorem c16_ok : compF Tryd.prog 16=some c16.er:=by kernel_rfl
set_option maxHeartbeats 4000000 in
theorem verify_Differ_R {P:Program}(hP:P=Tryd.prog)(p:Policy)(t_:Table)(r:(A10 Int)×Bool)(h:verify_Differ_g p t_=some r):Fn1 P 16 [vPolicy p,vTable t_] (.tup [vA10Ii64 r.1,vB r.2]):=by
 refine .walkE (hP▸c16_ok) fun K hK=>?_;unfold verify_Differ_g at h;cbv;refine .g h (fun (v1:Bool)=>[.top,.top,.ptr 0 0,.ptr 1 0,.ptr 2 0]++rp 13 .top++[ob v1]++rp 38 .top) (fun v1=>[.cells [.d (.sl (W eRule p.Rules))] 24,.cells [.d (.sl (W eNode t_.Nodes)),.d (.sl (W eDecision t_.Leaves))] 28,.cells [oi 0,oi 0,oi 0,oi 0,oi 0,oi 0,oi 0,oi 0,oi 0,oi 0] 38]) (fun y hm Kn1 hKn1=>?_) fun t h=>?_
 ·have h:=hm;clear hm;cbv;refine .g h (fun v hv=>decide_Valid_R hP _ v hv) aw_ rfl (fun _=>rfl) fun v2 h=>?_;cbv;refine brkG h ?_ ?_<;>intro h
  ·cbv;obtain rfl:=oj h;refine hKn1 _ _ _ rfl (.nz (.mtE [0,1,2] ?_));(cbv;repeat (refine⟨an_,?_⟩;cbv))
  ·cbv;refine .g h (fun v hv=>table_Valid_R hP _ v hv) aw_ rfl (fun _=>rfl) fun v3 h=>?_;cbv;obtain rfl:=oj h;refine hKn1 _ _ _ rfl (.nz (.mtE [0,1,2] ?_));(cbv;repeat (refine⟨an_,?_⟩;cbv))
 obtain⟨v1,rfl⟩:=ez t;cbv;refine brkG h ?_ ?_<;>intro h
 ·cbv;obtain rfl:=oj h;exact hK _ _ aw_
 ·cbv;refine .g h (fun v hv=>resolve_Limits_R hP v hv) aw_ rfl (fun _=>rfl) fun v4 h=>?_;cbv;refine .g h (fun (zones5:(List Live))=>rp 4 .top++[.ptr 0 0,.top,.ptr 1 0,.hd 3]++rp 49 .top) (fun zones5=>[.cells [oi 0,oi 0,oi 0,oi 0,oi 0,oi 0,oi 0,oi 0,oi 0,oi 0] 38,.cells ([.d (.sl (W eRule p.Rules)),.d (.sl (W eNode t_.Nodes)),.d (.sl (W eDecision t_.Leaves))]++cR v4++[oi 0,oi 0,oi 0,oi 0,oi 0,oi 0,oi 0,oi 0,oi 0,oi 0,.hd 2]) 79,.mp .str false (WM Value.string eB []),.row 82 2 (W eLive zones5)]) (fun y hm Kn1 hKn1=>?_) fun t h=>?_
  ·have h:=hm;clear hm;cbv;refine .g h (fun ((zones6,v7):(List Live)×Int)=>rp 4 .top++[.ptr 0 0,.top,.ptr 1 0,.hd 3]++rp 19 .top++[.d (.sl (W eRule p.Rules)),oi (io.len (W eRule p.Rules)),oi v7]++rp 27 .top) (fun (zones6,v7)=>[.cells [oi 0,oi 0,oi 0,oi 0,oi 0,oi 0,oi 0,oi 0,oi 0,oi 0] 38,.cells ([.d (.sl (W eRule p.Rules)),.d (.sl (W eNode t_.Nodes)),.d (.sl (W eDecision t_.Leaves))]++cR v4++[oi 0,oi 0,oi 0,oi 0,oi 0,oi 0,oi 0,oi 0,oi 0,oi 0,.hd 2]) 79,.mp .str false (WM Value.string eB []),.row 82 2 (W eLive zones6)]) (.nilr 7 82 2 rfl (.nz (.mtE [2,4,3,5] ?_))) fun s x h hr2 Kn2 hKn2=>?_
   ·(cbv;repeat (refine⟨an_,?_⟩;cbv))
   unfold verify_Differ_l12 at h;obtain⟨zones6,v7⟩:=s;cbv;refine brkG h ?_ ?_<;>intro h
   ·cbv;refine .g h (fun (zones8:(List Live))=>rp 4 .top++[.ptr 0 0,.top,.ptr 1 0,.hd 3]++rp 19 .top++[.d (.sl (W eRule p.Rules)),oi (io.len (W eRule p.Rules)),oi v7]++rp 27 .top) (fun zones8=>[.cells [oi 0,oi 0,oi 0,oi 0,oi 0,oi 0,oi 0,oi 0,oi 0,oi 0] 38,.cells ([.d (.sl (W eRule p.Rules)),.d (.sl (W eNode t_.Nodes)),.d (.sl (W eDecision t_.Leaves))]++cR v4++[oi 0,oi 0,oi 0,oi 0,oi 0,oi 0,oi 0,oi 0,oi 0,oi 0,.hd 2]) 79,.mp .str false (WM Value.string eB []),.row 82 2 (W eLive zones8)]) (fun y hm Kn3 hKn3=>?_) fun t h=>?_
    ·have h:=hm;clear hm;cbv;refine .g h (fun _=>rfl) fun x9 h=>?_;cbv;refine .g h (fun ((zones10,v11):(List Live)×Int)=>rp 4 .top++[.ptr 0 0,.top,.ptr 1 0,.hd 3,oi v7]++rp 18 .top++[.d (.sl (W eRule p.Rules)),oi (io.len (W eRule p.Rules)),oi v7]++rp 6 .top++[oi (io.len (W eA10Range x9.Zones)),oi v11]++rp 19 .top) (fun (zones10,v11)=>[.cells [oi 0,oi 0,oi 0,oi 0,oi 0,oi 0,oi 0,oi 0,oi 0,oi 0] 38,.cells ([.d (.sl (W eRule p.Rules)),.d (.sl (W eNode t_.Nodes)),.d (.sl (W eDecision t_.Leaves))]++cR v4++[oi 0,oi 0,oi 0,oi 0,oi 0,oi 0,oi 0,oi 0,oi 0,oi 0,.hd 2]) 79,.mp .str false (WM Value.string eB []),.row 82 2 (W eLive zones10)]) (.nz (.mtE [0,1,2,3] ?_)) fun s x h hr4 Kn4 hKn4=>?_
     ·(cbv;repeat (refine⟨an_,?_⟩;cbv))
     unfold verify_Differ_l14 at h;obtain⟨zones10,v11⟩:=s;cbv;refine brkG h ?_ ?_<;>intro h
     ·cbv;refine .g (e:=eLive) h (W_cons aw_ (W_nil' _)) fun l12 h=>?_;cbv;refine .g h rfl (fun _=>rfl) (by decide) fun zones13 h=>?_;cbv;obtain rfl:=oj h;refine hKn4 _ _ _ rfl (.nz (.mtE [0,1,2,5] ?_));(cbv;repeat (refine⟨an_,?_⟩;cbv))
     ·cbv;obtain rfl:=oj h;obtain rfl:=hr4 _ rfl;refine hKn3 _ _ _ rfl (.nz (.mtE [0,1,2,3] ?_));(cbv;repeat (refine⟨an_,?_⟩;cbv))
    obtain⟨zones8,rfl⟩:=ez t;cbv;obtain rfl:=oj h;refine hKn2 _ _ _ rfl (.nz (.mtE [0,1,2,3] ?_));(cbv;repeat (refine⟨an_,?_⟩;cbv))
   ·cbv;obtain rfl:=oj h;obtain rfl:=hr2 _ rfl;refine hKn1 _ _ _ rfl (.nz (.mtE [0,1,2,3] ?_));(cbv;repeat (refine⟨an_,?_⟩;cbv))
  obtain⟨zones5,rfl⟩:=ez t;cbv;refine .g h (fun ((facts14,equal15,v16):(A10 Int)×(List (ByteArray×Bool))×Bool)=>rp 4 .top++[.ptr 0 0,.top,.ptr 1 0]++rp 44 .top++[ob v16]++rp 5 .top) (fun (facts14,equal15,v16)=>[.cells [oi 0,oi 0,oi 0,oi 0,oi 0,oi 0,oi 0,oi 0,oi 0,oi 0] 38,.cells ([.d (.sl (W eRule p.Rules)),.d (.sl (W eNode t_.Nodes)),.d (.sl (W eDecision t_.Leaves))]++cR v4++(ca facts14++[.hd 2])) 79,.mp .str false (WM Value.string eB equal15)]) (fun y hm Kn1 hKn1=>?_) fun t h=>?_
  ·have h:=hm;clear hm;cbv;obtain⟨r17,hm,h⟩:=Option.bind_eq_some_iff.1 h;refine .embL [1,2] (tdiff_all hP p.Rules t_.Nodes t_.Leaves v4 11 _ _ _ _ _ _ hm) (by (cbv;repeat (refine⟨an_,?_⟩;cbv))) fun sv0 own0 hq _=>?_;obtain⟨rfl,rfl⟩:=hq;clear hm;cbv;obtain rfl:=oj h;refine hKn1 _ _ _ rfl (.nz (.mtE [0,1,2] ?_));(cbv;repeat (refine⟨an_,?_⟩;cbv))
  obtain⟨facts14,equal15,v16⟩:=t;cbv;refine brkG h ?_ ?_<;>intro h
  ·cbv;obtain rfl:=oj h;exact hK _ _ aw_
  ·cbv;obtain rfl:=oj h;exact hK _ _ aw_
end Go.SX.Td
namespace Go.SX.Td
open Go Go.SX Go.Proofs
set_option maxRecDepth 100000
def c27r0 : List GOp:=[
 gv 0 (.alloc 45 (.agg #[(.bool false),(.bool false),(.bool false),oz,oz,oz,oz,oz,oz,oz,oz,oz,oz,oz,oz,oz]))]
def c27r1 : List GOp:=[
 gv 2 (.build (.agg #[oz,oz]) [((1,1),(.const (.int .i64 1)))]),
 gv 1 (.alloc 34 (.agg #[oz,oz])),
 ⟨none,.store 2 (.tmp 1) (.tmp 2),none⟩]
def c27r2 : List GOp:=[
 gv 3 (.load 2 true (.tmp 1)),
 gv 4 (.load 2 true (.tmp 1)),
 gv 5 (.load 2 true (.tmp 1)),
 gv 6 (.load 2 true (.tmp 1)),
 gv 7 (.load 2 true (.tmp 1)),
 gv 8 (.build (.agg #[(.bool false),(.bool false),(.bool false),oz,oz,oz,oz,oz,oz,oz,oz,oz,oz,oz,oz,oz]) [((5,2),(.tmp 3)),((7,2),(.tmp 4)),((9,2),(.tmp 5)),((11,2),(.tmp 6)),((13,2),(.tmp 7)),((15,1),(.const (.int .i64 (-1))))]),
 ⟨none,.store 16 (.tmp 0) (.tmp 8),none⟩]
def c27 : EFn:=⟨9,.seq (.reg c27r0) (.seq (.reg c27r1) (.seq (.reg c27r2) (.ret))),[.cell 0 16 true]⟩
theorem c27_ok : compF Tryd.prog 27=some c27.er:=by kernel_rfl
set_option maxHeartbeats 4000000 in
theorem law15_none_R {P:Program}(hP:P=Tryd.prog)(r:Decision)(h:law15_none_g=some r):Fn1 P 27 [] (vDecision r):=by
 refine .walkE (hP▸c27_ok) fun K hK=>?_;unfold law15_none_g at h;cbv;obtain rfl:=oj h;exact hK _ _ aw_
end Go.SX.Td
namespace Go.SX.Td
open Go Go.SX Go.Proofs
set_option maxRecDepth 100000
def c28r0 : List GOp:=[
 gv 0 (.alloc 57 (.agg #[oz,oz,oz,oz,oz,oz,oz,oz,oz,oz,oz,oz,oz,oz,oz,oz,oz,oz,oz,oz]))]
def c28r1 : List GOp:=[
 gv 1 (.alloc 57 (.agg #[oz,oz,oz,oz,oz,oz,oz,oz,oz,oz,oz,oz,oz,oz,oz,oz,oz,oz,oz,oz]))]
def c28r2 : List GOp:=[
 gv 4 (.bslice 3 1 10 oz [(0,(.const (.int .i64 1000000000))),(1,(.const (.int .i64 150))),(2,(.const (.int .i64 1))),(3,(.const (.int .i64 19))),(4,(.const (.int .i64 7))),(5,(.const (.int .i64 319))),(6,(.const (.int .i64 3))),(7,(.const (.int .i64 3))),(8,(.const (.int .i64 12))),(9,(.const (.int .i64 100)))]),
 gv 2 (.mv (.tmp 4))]
def c28r3 : List GOp:=[
 gv 3 (.mv (.const (.int .i64 0)))]
def c28r4 : List GOp:=[
 gv 5 (.mv (.tmp 3)),
 gv 6 (.mv (.tmp 2)),
 gv 7 (.len false (.tmp 6)),
 gv 8 (.bin .lss (.tmp 5) (.tmp 7))]
def c28r5 : List GOp:=[
 gv 11 (.mv (.tmp 3)),
 gv 12 (.mv (.tmp 2)),
 gv 13 (.mv (.tmp 3)),
 gv 14 (.idxA 1 (.tmp 12) (.tmp 13)),
 gv 15 (.load 1 false (.tmp 14)),
 gv 16 (.idxP 10 2 (.tmp 1) (.tmp 11)),
 gv 17 (.fadd 1 (.tmp 16)),
 ⟨none,.store 1 (.tmp 17) (.tmp 15),none⟩]
def c28r6 : List GOp:=[
 gv 9 (.mv (.tmp 3)),
 gv 10 (.bin .add (.tmp 9) (.const (.int .i64 1))),
 gv 3 (.mv (.tmp 10))]
def c28l7 : DE:=.seq (.seq (.reg c28r4) (.cond (.tmp 8) (.skip) (.exit 0))) (.join (.block 1 (.reg c28r5)) (.reg c28r6))
def c28r8 : List GOp:=[
 gv 18 (.idxP 10 2 (.tmp 1) (.const (.int .i64 8))),
 gv 19 (.fadd 0 (.tmp 18)),
 ⟨none,.store 1 (.tmp 19) (.const (.int .i64 1)),none⟩]
def c28r9 : List GOp:=[
 gv 20 (.load 20 true (.tmp 1)),
 ⟨none,.store 20 (.tmp 0) (.tmp 20),none⟩]
def c28 : EFn:=⟨21,.seq (.reg c28r0) (.seq (.reg c28r1) (.seq (.reg c28r2) (.join (.seq (.reg c28r3) (.block 0 (.loop c28l7))) (.seq (.reg c28r8) (.seq (.reg c28r9) (.ret)))))),[.cell 0 20 true]⟩
theorem c28_ok : compF Tryd.prog 28=some c28.er:=by kernel_rfl
set_option maxHeartbeats 4000000 in
theorem ref12_Limits_R {P:Program}(hP:P=Tryd.prog)(r:(A10 Range))(h:ref12_Limits_g=some r):Fn1 P 28 [] (vA10Range r):=by
 refine .walkE (hP▸c28_ok) fun K hK=>?_;unfold ref12_Limits_g at h;cbv;refine .g (e:=eIi64) h (W_cons aw_ (W_cons aw_ (W_cons aw_ (W_cons aw_ (W_cons aw_ (W_cons aw_ (W_cons aw_ (W_cons aw_ (W_cons aw_ (W_cons aw_ (W_nil' _))))))))))) fun high1 h=>?_;cbv;refine .g h (fun (z2:(A10 Range))=>[.ptr 0 0,.ptr 1 0]++rp 19 .top) (fun z2=>[.cells [oi 0,oi 0,oi 0,oi 0,oi 0,oi 0,oi 0,oi 0,oi 0,oi 0,oi 0,oi 0,oi 0,oi 0,oi 0,oi 0,oi 0,oi 0,oi 0,oi 0] 57,.cells (cR z2) 57]) (fun y hm Kn1 hKn1=>?_) fun t h=>?_
 ·have h:=hm;clear hm;cbv;refine .g h (fun ((z3,i4):(A10 Range)×Int)=>[.ptr 0 0,.ptr 1 0,.hd 2,oi i4]++rp 17 .top) (fun (z3,i4)=>[.cells [oi 0,oi 0,oi 0,oi 0,oi 0,oi 0,oi 0,oi 0,oi 0,oi 0,oi 0,oi 0,oi 0,oi 0,oi 0,oi 0,oi 0,oi 0,oi 0,oi 0] 57,.cells (cR z3) 57,.row 3 1 (W eIi64 high1)]) (.nz (.mtE [0,1,2] ?_)) fun s x h hr2 Kn2 hKn2=>?_
  ·(cbv;repeat (refine⟨an_,?_⟩;cbv))
  unfold ref12_Limits_l2 at h;obtain⟨z3,i4⟩:=s;cbv;refine brkG h ?_ ?_<;>intro h
  ·cbv;refine .g h (fun (z5:(A10 Range))=>[.ptr 0 0,.ptr 1 0,.hd 2,oi i4]++rp 17 .top) (fun z5=>[.cells [oi 0,oi 0,oi 0,oi 0,oi 0,oi 0,oi 0,oi 0,oi 0,oi 0,oi 0,oi 0,oi 0,oi 0,oi 0,oi 0,oi 0,oi 0,oi 0,oi 0] 57,.cells (cR z5) 57,.row 3 1 (W eIi64 high1)]) (fun y hm Kn3 hKn3=>?_) fun t h=>?_
   ·have h:=hm;clear hm;cbv;refine .g h fun i6 h=>?_;cbv;refine .g h fun v7 h=>?_;cbv
    refine .c10 h ?_ ?_ ?_ ?_ ?_ ?_ ?_ ?_ ?_ ?_<;>(
     intro hnix8 h;cbv;obtain rfl:=oj h;refine hKn3 _ _ _ rfl (.nz (.mtE [0,1,2] ?_));(cbv;repeat (refine⟨an_,?_⟩;cbv))
     )
   obtain⟨z5,rfl⟩:=ez t;cbv;obtain rfl:=oj h;refine hKn2 _ _ _ rfl (.nz (.mtE [0,1,2] ?_));(cbv;repeat (refine⟨an_,?_⟩;cbv))
  ·cbv;obtain rfl:=oj h;obtain rfl:=hr2 _ rfl;refine hKn1 _ _ _ rfl (.nz (.mtE [0,1] ?_));(cbv;repeat (refine⟨an_,?_⟩;cbv))
 obtain⟨z2,rfl⟩:=ez t;cbv;refine .lit 8 rfl (by decide) ?_;cbv;obtain rfl:=oj h;exact hK _ _ aw_
end Go.SX.Td
namespace Go.SX.Td
open Go Go.SX Go.Proofs
set_option maxRecDepth 100000
def c29r0 : List GOp:=[
 gv 0 (.alloc 38 (.agg #[oz,oz,oz,oz,oz,oz,oz,oz,oz,oz]))]
def c29r1 : List GOp:=[
 gv 1 (.alloc 38 (.agg #[oz,oz,oz,oz,oz,oz,oz,oz,oz,oz]))]
def c29r2 : List GOp:=[
 gv 4 (.call 28 []),
 gv 2 (.alloc 57 (.agg #[oz,oz,oz,oz,oz,oz,oz,oz,oz,oz,oz,oz,oz,oz,oz,oz,oz,oz,oz,oz])),
 ⟨none,.store 20 (.tmp 2) (.tmp 4),none⟩]
def c29r3 : List GOp:=[
 gv 3 (.mv (.const (.int .i64 0)))]
def c29r4 : List GOp:=[
 gv 5 (.mv (.tmp 3)),
 gv 6 (.bin .lss (.tmp 5) (.const (.int .i64 10)))]
def c29r5 : List GOp:=[
 gv 9 (.mv (.tmp 3)),
 gv 10 (.mv (.tmp 3)),
 gv 11 (.idxP 10 2 (.tmp 2) (.tmp 10)),
 gv 12 (.fadd 0 (.tmp 11)),
 gv 13 (.load 1 false (.tmp 12)),
 gv 14 (.idxP 10 1 (.tmp 1) (.tmp 9)),
 ⟨none,.store 1 (.tmp 14) (.tmp 13),none⟩]
def c29r6 : List GOp:=[
 gv 7 (.mv (.tmp 3)),
 gv 8 (.bin .add (.tmp 7) (.const (.int .i64 1))),
 gv 3 (.mv (.tmp 8))]
def c29l7 : DE:=.seq (.seq (.reg c29r4) (.cond (.tmp 6) (.skip) (.exit 0))) (.join (.block 1 (.reg c29r5)) (.reg c29r6))
def c29r8 : List GOp:=[
 gv 15 (.load 10 true (.tmp 1)),
 ⟨none,.store 10 (.tmp 0) (.tmp 15),none⟩]
def c29 : EFn:=⟨16,.seq (.reg c29r0) (.seq (.reg c29r1) (.seq (.reg c29r2) (.join (.seq (.reg c29r3) (.block 0 (.loop c29l7))) (.seq (.reg c29r8) (.ret))))),[.cell 0 10 true]⟩
theorem c29_ok : compF Tryd.prog 29=some c29.er:=by kernel_rfl
set_option maxHeartbeats 4000000 in
theorem ref15_Start_R {P:Program}(hP:P=Tryd.prog)(r:(A10 Int))(h:ref15_Start_g=some r):Fn1 P 29 [] (vA10Ii64 r):=by
 refine .walkE (hP▸c29_ok) fun K hK=>?_;unfold ref15_Start_g at h;cbv;refine .g h (fun v hv=>ref12_Limits_R hP v hv) aw_ rfl (fun _=>rfl) fun v1 h=>?_;cbv;refine .g h (fun (f2:(A10 Int))=>[.ptr 0 0,.ptr 1 0]++rp 14 .top) (fun f2=>[.cells [oi 0,oi 0,oi 0,oi 0,oi 0,oi 0,oi 0,oi 0,oi 0,oi 0] 38,.cells (ca f2) 38]) (fun y hm Kn1 hKn1=>?_) fun t h=>?_
 ·have h:=hm;clear hm;cbv;refine .g h (fun ((f3,i4):(A10 Int)×Int)=>[.ptr 0 0,.ptr 1 0,.ptr 2 0,oi i4]++rp 12 .top) (fun (f3,i4)=>[.cells [oi 0,oi 0,oi 0,oi 0,oi 0,oi 0,oi 0,oi 0,oi 0,oi 0] 38,.cells (ca f3) 38,.cells (cR v1) 57]) (.nz (.mtE [0,1,2] ?_)) fun s x h hr2 Kn2 hKn2=>?_
  ·(cbv;repeat (refine⟨an_,?_⟩;cbv))
  unfold ref15_Start_l2 at h;obtain⟨f3,i4⟩:=s;cbv;refine brkG h ?_ ?_<;>intro h
  ·cbv;refine .g h (fun ((f5,i6):(A10 Int)×Int)=>[.ptr 0 0,.ptr 1 0,.ptr 2 0,oi i6]++rp 12 .top) (fun (f5,i6)=>[.cells [oi 0,oi 0,oi 0,oi 0,oi 0,oi 0,oi 0,oi 0,oi 0,oi 0] 38,.cells (ca f5) 38,.cells (cR v1) 57]) (fun y hm Kn3 hKn3=>?_) fun t h=>?_
   ·have h:=hm;clear hm;cbv
    refine .c10 h ?_ ?_ ?_ ?_ ?_ ?_ ?_ ?_ ?_ ?_<;>(
     intro hni7 h;cbv;refine .at _ hni7 (by decide) ?_;cbv;obtain rfl:=oj h;refine hKn3 _ _ _ rfl (.nz (.mtE [0,1,2] ?_));(cbv;repeat (refine⟨an_,?_⟩;cbv))
     )
   obtain⟨f5,i6⟩:=t;cbv;obtain rfl:=oj h;refine hKn2 _ _ _ rfl (.nz (.mtE [0,1,2] ?_));(cbv;repeat (refine⟨an_,?_⟩;cbv))
  ·cbv;obtain rfl:=oj h;obtain rfl:=hr2 _ rfl;refine hKn1 _ _ _ rfl (.nz (.mtE [0,1] ?_));(cbv;repeat (refine⟨an_,?_⟩;cbv))
 obtain⟨f2,rfl⟩:=ez t;cbv;obtain rfl:=oj h;exact hK _ _ aw_
end Go.SX.Td
