/- Parts of the proof. -/
import Derived.Test.YtllbabjgpdmblaaGreatDoorZTdT
import Derived.Test.YtllbabjgpdmblaaGreatDoorZTd19
import Derived.Test.YtllbabjgpdmblaaGreatDoorZTryzShelf
import Derived.Test.YtllbabjgpdmblaaGreatDoorZTd17d
import Derived.Test.YtllbabjgpdmblaaGreatDoorZTd32d
import Derived.Test.YtllbabjgpdmblaaGreatDoorZTd49
set_option linter.unusedSimpArgs false
set_option linter.unusedVariables false
set_option linter.unusedSectionVars false
namespace Go.SX.Td
open Go Go.SX Go.Proofs
set_option maxRecDepth 100000
def ae3 : List ah:=gS 8 [.mv (cB false)]
def aa3 : List ah:=gS 17 [.mv 1,.bin .eql 17 (ci 10)]
def an3 : List ah:=gS 19 [.mv 0,.aO 19,.aj 1 20,.aj 1 21,.load 1 false 22,.mv 0,.aO 24,.aj 1 25,.aj 0 26,.load 1 false 27,.mv 3,.aQ 4 28 29,.aj 3 30,.load 1 false 31,.aQ 16 23 32,.load 16 true 33,.mv 0,.aO 35,.aj 0 36,.load 1 true 37,.mv 0,.aO 39,.aj 23 40,.load 10 true 41,.call 31 [38,42],.beq true [.bool,.bool,.bool,.int,.int,.int,.int,.int,.int,.int,.int,.int,.int,.int,.int,.int] 34 43]++gS 8 [.mv 44]
def as3 : List ah:=gS 45 [.mv 1,.mv 3,.mv 2,.call 52 [45,46,47]]++gS 9 [.mv 48]
def al3 : List ah:=gS 49 [.mv 0,.aO 49,.aj 33 50,.load 1 false 51,.mv 9,.lI .str false false (.bool false) 52 53]
def ad3 : List ah:=gS 8 [.mv (cB false)]
def ac3 : List ah:=gS 55 [.mv 0,.mv 1,.mv 2,.mv 3,.call 53 [55,56,57,58],.len false 59,.mv (ci 0)]
def am3 : List ah:=gS 62 [.bin .lss 61 60]
def ah3 : List ah:=gS 63 [.aQ 1 59 61,.load 1 false 63]++gS 11 [.mv 64]
def ag3 : List ah:=gS 65 [.mv 0,.mv 1,.mv 11,.aO 65,.aj 23 68,.eH 10 1 69 66]++[⟨none,.store 1 70 67,none⟩]
def bz2 : List ah:=gS 12 [.mv cn]
def bq2 : List ah:=gS 71 [.mv 2,.len false 71,.mv (ci 0)]
def nu2 : List ah:=gS 74 [.bin .lss 73 72]
def no2 : List ah:=gS 75 [.aQ 2 71 73,.load 2 true 75]++gS 14 [.alloc 66 (.agg #[oz,oz])]++[⟨none,.store 2 14 76,none⟩]
def ni2 : List ah:=gS 77 [.mv 0,.aO 77,.aj 0 78,.aj 0 79,.load 1 false 80,.aj 0 14,.load 1 false 82,.aQ 8 81 83,.aj 2 84,.load 1 false 85,.aj 1 14,.load 1 false 87,.mv 1,.aQ 20 86 88,.eH 10 2 90 89,.load 2 true 91]++gS 15 [.alloc 52 (.agg #[oz,oz])]++[⟨none,.store 2 15 92,none⟩]
def ne2 : List ah:=gS 93 [.mv 11,.aj 0 15,.load 1 false 94,.bin .geq 93 95,.mv 96]++gQ 97 true 98 [.mv 11,.aj 1 15,.load 1 false 99,.bin .leq 98 100]++gS 102 [.pick 97 101 (cB false)]
def na2 : List ah:=gS 103 [.mv 12,.load 2 true 14,.aU 66 2 1 (.agg #[oz,oz]) [(0,104)],.app 66 2 16 (.agg #[oz,oz]) 103 105]++gS 12 [.mv 106]
def nr2 : List ah:=gS 107 [.bin .add 73 (ci 1)]++gS 73 [.mv 107]
def bx2 : DE:=.seq (.reg nu2) (.seq (.cond 74 (.skip) (.exit 2)) (.join (.block 3 (.seq (.reg no2) (.join (.par true true true 17 ni2) (.join (.reg ne2) (.cond 102 (.reg na2) (.skip)))))) (.reg nr2)))
def nn2 : List ah:=gS 108 [.mv 3]++gS 16 [.mv 108]
def ns2 : List ah:=gS 109 [.mv 0,.mv 3,.mv 1,.call 54 [109,110,111]]
def nt2 : List ah:=gS 113 [.mv 0,.mv 3,.mv 11,.call 55 [113,114,115]]++gS 16 [.mv 116]
def nl2 : List ah:=gS 117 [.mv 0,.mv 1,.bin .add 118 (ci 1),.mv 12,.mv 16,.call 24 [117,119,120,121]]
def nd2 : List ah:=gS 8 [.mv (cB true)]
def nc2 : List ah:=gS 123 [.bin .add 61 (ci 1)]++gS 61 [.mv 123]
def bj2 : DE:=.seq (.reg am3) (.seq (.cond 62 (.skip) (.exit 0)) (.join (.block 1 (.seq (.reg ah3) (.join (.reg ag3) (.seq (.reg bz2) (.join (.seq (.reg bq2) (.block 2 (.loop bx2))) (.seq (.reg nn2) (.join (.join (.reg ns2) (.cond 112 (.reg nt2) (.skip))) (.join (.reg nl2) (.cond 122 (.seq (.reg nd2) (.ret)) (.skip)))))))))) (.reg nc2)))
def nm2 : List ah:=gS 124 [.mv 0,.aO 124,.aj 33 125,.load 1 false 126,.mv 9]++[⟨none,.lq .str false 127 128 (cB true),none⟩]
def nf2 : List ah:=gS 8 [.mv (cB false)]
def c24 : fJ:=⟨129,.seq (.reg ae3) (.seq (.seq (.reg aa3) (.cond 18 (.seq (.par false false false 25 an3) (.ret)) (.skip))) (.seq (.reg as3) (.seq (.seq (.reg al3) (.cond 54 (.seq (.reg ad3) (.ret)) (.skip))) (.join (.join (.reg ac3) (.block 0 (.loop bj2))) (.seq (.reg nm2) (.seq (.reg nf2) (.ret))))))),[.tmp 8]⟩
theorem bv2 : fD Tryz.prog 24=some c24.er:=by kernel_rfl
set_option maxHeartbeats 8000000 in
theorem jb2 {P:Program}(hP:P=Tryz.prog)(rules:(List Rule))(nodes:(List Node))(leaves:(List Decision))(limits:(aF Range))(rec:(Int->(List Live)->Int->(aF Int)->(List (ByteArray×Bool))->Option (Bool×(aF Int)×(List (ByteArray×Bool)))))(attr:Int)(zones:(List Live))(node:Int)(facts:(aF Int))(equal:(List (ByteArray×Bool)))(hrec:∀ attr zones node facts equal r,rec attr zones node facts equal=some r->dX P 24 [.cells ([dq aZ rules,dq bC nodes,dq bJ leaves]++cR limits++(ca facts++[.hd 1])) 63,.mp .str false (WM Value.string eB equal)] [.ptr 0 0,oi attr,dq jX zones,oi node] (fun sv own'=>sv=ob r.1/\own'=[.cells ([dq aZ rules,dq bC nodes,dq bJ leaves]++cR limits++(ca r.2.1++[.hd 1])) 63,.mp .str false (WM Value.string eB r.2.2)]))(r:Bool×(aF Int)×(List (ByteArray×Bool)))(h:Xo rules nodes leaves limits rec attr zones node facts equal=some r):dX P 24 [.cells ([dq aZ rules,dq bC nodes,dq bJ leaves]++cR limits++(ca facts++[.hd 1])) 63,.mp .str false (WM Value.string eB equal)] [.ptr 0 0,oi attr,dq jX zones,oi node] (fun sv own'=>sv=ob r.1/\own'=[.cells ([dq aZ rules,dq bC nodes,dq bJ leaves]++cR limits++(ca r.2.1++[.hd 1])) 63,.mp .str false (WM Value.string eB r.2.2)]):=by
 refine .OY 2 rfl (Nat.le_of_ble_eq_true rfl) (hP▸bv2) fun K hK=>?_;unfold Xo at h;cbv;refine aG h ?_ ?_<;>intro h
 ·cbv;refine .g h (fun _=>rfl) fun x1 h=>?_;cbv;refine .g h (fun _=>rfl) fun x2 h=>?_;cbv;refine .g h (fun v hv=>ce0 hP _ _ v hv) aJ rfl (fun _=>rfl) fun v3 h=>?_;cbv;obtain rfl:=oj h;exact hK _ _ [0,1] mx
 ·cbv;refine .g h (fun v hv=>wh1 hP _ _ _ v hv) aJ rfl (fun _=>rfl) fun k4 h=>?_;cbv;refine .gs (e:=eB) h (by first|rfl|exact GK _ _) (fun h=>h) fun y5 h=>?_;cbv;refine aG h ?_ ?_<;>intro h
  ·cbv;obtain rfl:=oj h;exact hK _ _ [0,1] mx
  ·cbv;refine .ga h (fun ((uP,Em):(aF Int)×(List (ByteArray×Bool)))=>[.ptr 0 0]++rp 8 .top++[.d (.val (.string k4))]++rp 119 .top) (fun (uP,Em)=>[.cells ([dq aZ rules,dq bC nodes,dq bJ leaves]++cR limits++(ca uP++[.hd 1])) 63,.mp .str false (WM Value.string eB Em)]) (fun y hm hr1 Kn1 aC=>?_) fun t h=>?_
   ·have h:=hm;clear hm;cbv;refine .g h (fun ((v8,v9):(List Int)×Int)=>[.ptr 0 0,oi attr,dq jX zones,oi node]++rp 5 .top++[.d (.val (.string k4))]++rp 49 .top++[dq aH v8,oi v9,oi 0]++rp 67 .top) (fun (v8,v9)=>[.cells ([dq aZ rules,dq bC nodes,dq bJ leaves]++cR limits++(ca facts++[.hd 1])) 63,.mp .str false (WM Value.string eB equal)]) (fun y hm Kn2 bg=>?_) fun t h=>?_
    ·have h:=hm;clear hm;cbv;obtain⟨r10,hm,h⟩:=Option.bind_eq_some_iff.1 h;refine .DL [0,1] (jw2 hP _ _ _ _ _ _ _ _ _ _ hm) mx fun sv0 dG hq _=>?_;obtain⟨rfl,rfl⟩:=hq;clear hm;cbv;obtain rfl:=oj h;exact bg _ _ _ rfl (.nz (.aB [0,1] mx))
    obtain⟨v8,v9⟩:=t;cbv;refine .g h (fun ((mQ,iM,v13):(aF Int)×(List (ByteArray×Bool))×Int)=>[.ptr 0 0,oi attr,dq jX zones,oi node]++rp 5 .top++[.d (.val (.string k4))]++rp 49 .top++[dq aH v8,oi v9,oi v13]++rp 67 .top) (fun (mQ,iM,v13)=>[.cells ([dq aZ rules,dq bC nodes,dq bJ leaves]++cR limits++(ca mQ++[.hd 1])) 63,.mp .str false (WM Value.string eB iM)]) (.nz (.aB [0,1] ?_)) fun s x h hr2 Kn2 bg=>?_
    ·exact mx
    unfold Qj at h;obtain⟨mQ,iM,v13⟩:=s;cbv;refine aG h ?_ ?_<;>intro h
    ·cbv;refine .ga h (fun ((iH,yc):(aF Int)×(List (ByteArray×Bool)))=>[.ptr 0 0,oi attr,dq jX zones,oi node]++rp 5 .top++[.d (.val (.string k4))]++rp 49 .top++[dq aH v8,oi v9,oi v13]++rp 67 .top) (fun (iH,yc)=>[.cells ([dq aZ rules,dq bC nodes,dq bJ leaves]++cR limits++(ca iH++[.hd 1])) 63,.mp .str false (WM Value.string eB yc)]) (fun y hm hr3 Kn3 aP=>?_) fun t h=>?_
     ·have h:=hm;clear hm;cbv;refine .g h (fun _=>rfl) fun x16 h=>?_;cbv;refine .g h (fun (fP:(aF Int))=>[.ptr 0 0,oi attr,dq jX zones,oi node]++rp 5 .top++[.d (.val (.string k4)),.top,oi x16]++rp 47 .top++[dq aH v8,oi v9,oi v13]++rp 67 .top) (fun fP=>[.cells ([dq aZ rules,dq bC nodes,dq bJ leaves]++cR limits++(ca fP++[.hd 1])) 63,.mp .str false (WM Value.string eB iM)]) (fun y hm ku aY=>?_) fun t h=>?_
      ·have h:=hm;clear hm;cbv
       refine .c10 h ?_ ?_ ?_ ?_ ?_ ?_ ?_ ?_ ?_ ?_<;>(
        intro hni18 h;cbv;obtain rfl:=oj h;exact aY _ _ _ rfl (.nz (.aB [0,1] mx))
        )
      obtain⟨fP,rfl⟩:=ez t;cbv;refine .g h (fun (nK:(List Live))=>[.ptr 0 0,oi attr,dq jX zones,oi node]++rp 5 .top++[.d (.val (.string k4)),.top,oi x16,.hd 2]++rp 46 .top++[dq aH v8,oi v9,oi v13]++rp 67 .top) (fun nK=>[.cells ([dq aZ rules,dq bC nodes,dq bJ leaves]++cR limits++(ca fP++[.hd 1])) 63,.mp .str false (WM Value.string eB iM),rG nK]) (fun y hm ku aY=>?_) fun t h=>?_
      ·have h:=hm;clear hm;cbv;refine .g h (fun ((kN,v21):(List Live)×Int)=>[.ptr 0 0,oi attr,dq jX zones,oi node]++rp 5 .top++[.d (.val (.string k4)),.top,oi x16,.hd 2]++rp 46 .top++[dq aH v8,oi v9,oi v13]++rp 9 .top++[dq jX zones,oi (io.len (W jX zones)),oi v21]++rp 55 .top) (fun (kN,v21)=>[.cells ([dq aZ rules,dq bC nodes,dq bJ leaves]++cR limits++(ca fP++[.hd 1])) 63,.mp .str false (WM Value.string eB iM),rG kN]) (.Mc 12 66 2 rfl (.nz (.aB [0,1,2] ?_))) fun s x h wo Hr jH=>?_
       ·exact mx
       unfold Qo at h;obtain⟨kN,v21⟩:=s;cbv;refine aG h ?_ ?_<;>intro h
       ·cbv;refine .g h (fun (uh:(List Live))=>[.ptr 0 0,oi attr,dq jX zones,oi node]++rp 5 .top++[.d (.val (.string k4)),.top,oi x16,.hd 2]++rp 46 .top++[dq aH v8,oi v9,oi v13]++rp 9 .top++[dq jX zones,oi (io.len (W jX zones)),oi v21]++rp 55 .top) (fun uh=>[.cells ([dq aZ rules,dq bC nodes,dq bJ leaves]++cR limits++(ca fP++[.hd 1])) 63,.mp .str false (WM Value.string eB iM),rG uh]) (fun y hm N9 jY=>?_) fun t h=>?_
        ·have h:=hm;clear hm;cbv;refine .g h (fun _=>rfl) fun x23 h=>?_;cbv;refine .g h (fun ((F8,Gg):Int×Int)=>[.ptr 0 0,oi attr,dq jX zones,oi node]++rp 5 .top++[.d (.val (.string k4)),.top,oi x16,.hd 2,.top,.ptr 3 0,.ptr 4 0]++rp 43 .top++[dq aH v8,oi v9,oi v13]++rp 9 .top++[dq jX zones,oi (io.len (W jX zones)),oi v21]++rp 55 .top) (fun (F8,Gg)=>[.cells ([dq aZ rules,dq bC nodes,dq bJ leaves]++cR limits++(ca fP++[.hd 1])) 63,.mp .str false (WM Value.string eB iM),rG kN,.cells [oi x23.rule,oi x23.zone] 66,.cells [oi F8,oi Gg] 52]) (fun y hm YH uO=>?_) fun t h=>?_
         ·have h:=hm;clear hm;cbv;refine .g h (fun _=>rfl) fun KW h=>?_;cbv;refine .g h (fun _=>rfl) fun x27 h=>?_;cbv
          refine .c10 h ?_ ?_ ?_ ?_ ?_ ?_ ?_ ?_ ?_ ?_<;>(
           intro hni28 h;cbv;obtain rfl:=oj h;exact uO _ _ _ rfl (.nz (.aB [0,1,2,3,4] mx))
           )
         obtain⟨F8,Gg⟩:=t;cbv;refine .g h (fun (v29:Bool)=>[.ptr 0 0,oi attr,dq jX zones,oi node]++rp 5 .top++[.d (.val (.string k4)),.top,oi x16,.hd 2,.top,.ptr 3 0]++rp 44 .top++[dq aH v8,oi v9,oi v13]++rp 9 .top++[dq jX zones,oi (io.len (W jX zones)),oi v21]++rp 28 .top++[ob v29]++rp 26 .top) (fun v29=>[.cells ([dq aZ rules,dq bC nodes,dq bJ leaves]++cR limits++(ca fP++[.hd 1])) 63,.mp .str false (WM Value.string eB iM),rG kN,.cells [oi x23.rule,oi x23.zone] 66]) (fun y hm YH uO=>?_) fun t h=>?_
         ·have h:=hm;clear hm;cbv;refine aG h ?_ ?_<;>intro h
          ·cbv;obtain rfl:=oj h;exact uO _ _ _ rfl (.nz (.aB [0,1,2,3] mx))
          ·cbv;obtain rfl:=oj h;exact uO _ _ _ rfl (.nz (.aB [0,1,2,3] mx))
         obtain⟨v29,rfl⟩:=ez t;cbv;refine aG h ?_ ?_<;>intro h
         ·cbv;refine .g (e:=jX) h (gU aJ (jP _)) fun SG h=>?_;cbv;refine .g h rfl (fun _=>rfl) (by decide) fun Eh h=>?_;cbv;obtain rfl:=oj h;exact jY _ _ _ rfl (.nz (.aB [0,1,5] mx))
         ·cbv;obtain rfl:=oj h;exact jY _ _ _ rfl (.nz (.aB [0,1,2] mx))
        obtain⟨uh,rfl⟩:=ez t;cbv;obtain rfl:=oj h;exact jH _ _ _ rfl (.nz (.aB [0,1,2] mx))
       ·cbv;obtain rfl:=oj h;obtain rfl:=wo _ rfl;exact aY _ _ _ rfl (.nz (.aB [0,1,2] mx))
      obtain⟨nK,rfl⟩:=ez t;cbv;refine .g h (fun (uy:Int)=>[.ptr 0 0,oi attr,dq jX zones,oi node]++rp 5 .top++[.d (.val (.string k4)),.top,.top,.hd 2]++rp 3 .top++[oi uy]++rp 42 .top++[dq aH v8,oi v9,oi v13]++rp 67 .top) (fun uy=>[.cells ([dq aZ rules,dq bC nodes,dq bJ leaves]++cR limits++(ca fP++[.hd 1])) 63,.mp .str false (WM Value.string eB iM),rG nK]) (fun y hm ku aY=>?_) fun t h=>?_
      ·have h:=hm;clear hm;cbv;refine .g h (fun (v33:Bool)=>[.ptr 0 0,oi attr,dq jX zones,oi node]++rp 5 .top++[.d (.val (.string k4)),.top,oi x16,.hd 2]++rp 3 .top++[oi node]++rp 42 .top++[dq aH v8,oi v9,oi v13]++rp 50 .top++[ob v33]++rp 16 .top) (fun v33=>[.cells ([dq aZ rules,dq bC nodes,dq bJ leaves]++cR limits++(ca fP++[.hd 1])) 63,.mp .str false (WM Value.string eB iM),rG nK]) (fun y hm Hr jH=>?_) fun t h=>?_
       ·have h:=hm;clear hm;cbv;refine .inl (hP▸yn2) ?_;cbv;refine .g h (fun _=>rfl) fun x34 h=>?_;cbv;refine aG h ?_ ?_<;>intro h
        ·cbv;refine .g h (fun _=>rfl) fun WA h=>?_;cbv;obtain rfl:=oj h;exact jH _ _ _ rfl (.nz (.aB [0,1,2] mx))
        ·cbv;obtain rfl:=oj h;exact jH _ _ _ rfl (.nz (.aB [0,1,2] mx))
       obtain⟨v33,rfl⟩:=ez t;cbv;refine aG h ?_ ?_<;>intro h
       ·cbv;obtain⟨WQ,hm,h⟩:=Option.bind_eq_some_iff.1 h;refine .DL [0,1] (uw2 hP _ _ _ _ _ _ _ _ _ hm) mx fun sv0 dG hq _=>?_;obtain⟨rfl,rfl⟩:=hq;clear hm;cbv;obtain rfl:=oj h;exact aY _ _ _ rfl (.nz (.aB [0,1,2] mx))
       ·cbv;obtain rfl:=oj h;exact aY _ _ _ rfl (.nz (.aB [0,1,2] mx))
      obtain⟨uy,rfl⟩:=ez t;cbv;refine .g h (fun ((mP,wH,v39):(aF Int)×(List (ByteArray×Bool))×Bool)=>[.ptr 0 0,oi attr,dq jX zones,oi node]++rp 5 .top++[.d (.val (.string k4))]++rp 49 .top++[dq aH v8,oi v9,oi v13]++rp 60 .top++[ob v39]++rp 6 .top) (fun (mP,wH,v39)=>[.cells ([dq aZ rules,dq bC nodes,dq bJ leaves]++cR limits++(ca mP++[.hd 1])) 63,.mp .str false (WM Value.string eB wH)]) (fun y hm ku aY=>?_) fun t h=>?_
      ·have h:=hm;clear hm;cbv;obtain⟨WO,hm,h⟩:=Option.bind_eq_some_iff.1 h;refine .DL [0,1] (hrec _ _ _ _ _ _ hm) mx fun sv0 dG hq _=>?_;obtain⟨rfl,rfl⟩:=hq;clear hm;cbv;obtain rfl:=oj h;exact aY _ _ _ rfl (.nz (.aB [0,1] mx))
      obtain⟨mP,wH,v39⟩:=t;cbv;refine aG h ?_ ?_<;>intro h
      ·cbv;obtain rfl:=oj h;obtain rfl:=hr3 _ rfl;obtain rfl:=hr2 _ rfl;obtain rfl:=hr1 _ rfl;exact hK _ _ [0,1] mx
      ·cbv;obtain rfl:=oj h;exact aP _ _ _ rfl (.nz (.aB [0,1] mx))
     obtain⟨iH,yc⟩:=t;cbv;obtain rfl:=oj h;exact bg _ _ _ rfl (.nz (.aB [0,1] mx))
    ·cbv;obtain rfl:=oj h;obtain rfl:=hr2 _ rfl;exact aC _ _ _ rfl (.nz (.aB [0,1] mx))
   obtain⟨uP,Em⟩:=t;cbv;refine .gs (e:=eB) h (by first|rfl|exact GK _ _) aJ fun m41 h=>?_;cbv;obtain rfl:=oj h;exact hK _ _ [0,1] mx
theorem wr1 {P:Program}(hP:P=Tryz.prog)(rules:(List Rule))(nodes:(List Node))(leaves:(List Decision))(limits:(aF Range)):∀ (n:Nat)(attr:Int)(zones:(List Live))(node:Int)(facts:(aF Int))(equal:(List (ByteArray×Bool)))(r:Bool×(aF Int)×(List (ByteArray×Bool))),Jp rules nodes leaves limits n attr zones node facts equal=some r->dX P 24 [.cells ([dq aZ rules,dq bC nodes,dq bJ leaves]++cR limits++(ca facts++[.hd 1])) 63,.mp .str false (WM Value.string eB equal)] [.ptr 0 0,oi attr,dq jX zones,oi node] (fun sv own'=>sv=ob r.1/\own'=[.cells ([dq aZ rules,dq bC nodes,dq bJ leaves]++cR limits++(ca r.2.1++[.hd 1])) 63,.mp .str false (WM Value.string eB r.2.2)])
 |0,_,_,_,_,_,_,h=>by cases h
 |n+1,attr,zones,node,facts,equal,r,h=>jb2 hP rules nodes leaves limits _ attr zones node facts equal (wr1 hP rules nodes leaves limits n) r h
def c7r0 : List ah:=gS 2 [.box 24 0,.box 28 1,.alloc 32 (.agg #[oz,oz,oz,oz,oz,oz,oz,oz,oz,oz]),.mv (cB false)]
def c7r1 : List ah:=gS 11 [.load 1 true 2,.call 22 [11],.un .not 12,.mv 13]++gQ 14 false 15 [.load 2 true 3,.call 15 [15],.un .not 16]++gS 18 [.pick 14 (cB true) 17]
def c7r2 : List ah:=gS 19 [.build (.agg #[oz,oz,oz,oz,oz,oz,oz,oz,oz,oz]) []]++[⟨none,.store 10 4 19,none⟩]++gS 5 [.mv (cB true)]
def c7r3 : List ah:=gS 20 [.load 1 true 2,.load 2 true 3,.call 23 [],.DI .str false]
def yx3 : List ah:=gS 24 [.build (.agg #[(.slice none 0 0),(.slice none 0 0),(.slice none 0 0),oz,oz,oz,oz,oz,oz,oz,oz,oz,oz,oz,oz,oz,oz,oz,oz,oz,oz,oz,oz,oz,oz,oz,oz,oz,oz,oz,oz,oz,oz,(.map none)]) [((0,1),20),((1,2),21),((3,20),22),((33,1),23)],.box 63 24]++gS 6 [.mv 25]
def c7r4 : List ah:=gS 7 [.mv cn]
def c7r5 : List ah:=gS 26 [.aj 0 2,.load 1 false 26,.len false 27,.mv (ci 0)]
def c7r6 : List ah:=gS 30 [.bin .lss 29 28]
def c7r7 : List ah:=gS 31 [.mv 29,.aQ 8 27 29,.load 8 true 32]++gS 9 [.alloc 58 (.agg #[oz,(.string ⟨#[]⟩),(.slice none 0 0),oz,oz,oz,oz,oz])]++gS 8 [.mv 31]++[⟨none,.store 8 9 33,none⟩]
def c7r8 : List ah:=gS 34 [.aj 2 9,.load 1 false 34,.len false 35,.mv (ci 0)]
def c7r9 : List ah:=gS 38 [.bin .lss 37 36]
def yp3 : List ah:=gS 39 [.mv 37]++gS 10 [.mv 39]
def yg3 : List ah:=gS 40 [.mv 7,.mv 8,.mv 10,.build (.agg #[oz,oz]) [((0,1),41),((1,1),42)],.aU 66 2 1 (.agg #[oz,oz]) [(0,43)],.app 66 2 16 (.agg #[oz,oz]) 40 44]++gS 7 [.mv 45]
def yb3 : List ah:=gS 46 [.bin .add 37 (ci 1)]++gS 37 [.mv 46]
def yf3 : DE:=.seq (.reg c7r9) (.seq (.cond 38 (.skip) (.exit 2)) (.seq (.block 3 (.seq (.reg yp3) (.reg yg3))) (.reg yb3)))
def yy3 : List ah:=gS 47 [.bin .add 29 (ci 1)]++gS 29 [.mv 47]
def yh3 : DE:=.seq (.reg c7r6) (.seq (.cond 30 (.skip) (.exit 0)) (.join (.block 1 (.seq (.reg c7r7) (.seq (.reg c7r8) (.block 2 (.loop yf3))))) (.reg yy3)))
def yw3 : List ah:=gS 48 [.mv 6,.mv 7,.call 24 [48,(ci 0),49,(ci 0)],.un .not 50]
def yv3 : List ah:=gS 52 [.build (.agg #[oz,oz,oz,oz,oz,oz,oz,oz,oz,oz]) []]++[⟨none,.store 10 4 52,none⟩]++gS 5 [.mv (cB false)]
def yk3 : List ah:=gS 53 [.mv 6,.aO 53,.aj 23 54,.load 10 true 55]++[⟨none,.store 10 4 56,none⟩]++gS 5 [.mv (cB true)]
def c7 : fJ:=⟨57,.seq (.reg c7r0) (.seq (.join (.reg c7r1) (.cond 18 (.seq (.reg c7r2) (.ret)) (.skip))) (.seq (.Ro false false false 3 c7r3 yx3) (.seq (.reg c7r4) (.join (.seq (.reg c7r5) (.block 0 (.loop yh3))) (.seq (.join (.reg yw3) (.cond 51 (.seq (.reg yv3) (.ret)) (.skip))) (.seq (.reg yk3) (.ret))))))),[.cell 4 10 true,.tmp 5]⟩
theorem ym3 : fD Tryz.prog 7=some c7.er:=by kernel_rfl
set_option maxHeartbeats 4000000 in
theorem Oe {P:Program}(hP:P=Tryz.prog)(p:au)(t_:Table)(r:(aF Int)×Bool)(h:uj p t_=some r):Fn1 P 7 [BA p,BR t_] (.dO [H9 r.1,vB r.2]):=by
 refine .mJ (hP▸ym3) fun K hK=>?_;unfold uj at h;cbv;refine .g h (fun (v1:Bool)=>[.top,.top,.ptr 0 0,.ptr 1 0,.ptr 2 0]++rp 13 .top++[ob v1]++rp 38 .top) (fun v1=>[.cells [dq aZ p.Rules] 24,.cells [dq bC t_.Nodes,dq bJ t_.Leaves] 28,.cells [oi 0,oi 0,oi 0,oi 0,oi 0,oi 0,oi 0,oi 0,oi 0,oi 0] 32]) (fun y hm Kn1 aC=>?_) fun t h=>?_
 ·have h:=hm;clear hm;cbv;refine .g h (fun v hv=>iz0 hP _ v hv) aJ rfl (fun _=>rfl) fun v2 h=>?_;cbv;refine aG h ?_ ?_<;>intro h
  ·cbv;obtain rfl:=oj h;exact aC _ _ _ rfl (.nz (.aB [0,1,2] mx))
  ·cbv;refine .g h (fun v hv=>ot0 hP _ v hv) aJ rfl (fun _=>rfl) fun v3 h=>?_;cbv;obtain rfl:=oj h;exact aC _ _ _ rfl (.nz (.aB [0,1,2] mx))
 obtain⟨v1,rfl⟩:=ez t;cbv;refine aG h ?_ ?_<;>intro h
 ·cbv;obtain rfl:=oj h;exact hK _ _ aJ
 ·cbv;refine .g h (fun v hv=>Zp hP v hv) aJ rfl (fun _=>rfl) fun v4 h=>?_;cbv;refine .g h (fun (tX:(List Live))=>rp 4 .top++[.ptr 0 0,.top,.ptr 1 0,.hd 3]++rp 49 .top) (fun tX=>[.cells [oi 0,oi 0,oi 0,oi 0,oi 0,oi 0,oi 0,oi 0,oi 0,oi 0] 32,.cells ([dq aZ p.Rules,dq bC t_.Nodes,dq bJ t_.Leaves]++cR v4++[oi 0,oi 0,oi 0,oi 0,oi 0,oi 0,oi 0,oi 0,oi 0,oi 0,.hd 2]) 63,.mp .str false (WM Value.string eB []),rG tX]) (fun y hm Kn1 aC=>?_) fun t h=>?_
  ·have h:=hm;clear hm;cbv;refine .g h (fun ((pX,v7):(List Live)×Int)=>rp 4 .top++[.ptr 0 0,.top,.ptr 1 0,.hd 3]++rp 19 .top++[dq aZ p.Rules,oi (io.len (W aZ p.Rules)),oi v7]++rp 27 .top) (fun (pX,v7)=>[.cells [oi 0,oi 0,oi 0,oi 0,oi 0,oi 0,oi 0,oi 0,oi 0,oi 0] 32,.cells ([dq aZ p.Rules,dq bC t_.Nodes,dq bJ t_.Leaves]++cR v4++[oi 0,oi 0,oi 0,oi 0,oi 0,oi 0,oi 0,oi 0,oi 0,oi 0,.hd 2]) 63,.mp .str false (WM Value.string eB []),rG pX]) (.Mc 7 66 2 rfl (.nz (.aB [2,4,3,5] ?_))) fun s x h hr2 Kn2 bg=>?_
   ·exact mx
   unfold Oj at h;obtain⟨pX,v7⟩:=s;cbv;refine aG h ?_ ?_<;>intro h
   ·cbv;refine .g h (fun (tV:(List Live))=>rp 4 .top++[.ptr 0 0,.top,.ptr 1 0,.hd 3]++rp 19 .top++[dq aZ p.Rules,oi (io.len (W aZ p.Rules)),oi v7]++rp 27 .top) (fun tV=>[.cells [oi 0,oi 0,oi 0,oi 0,oi 0,oi 0,oi 0,oi 0,oi 0,oi 0] 32,.cells ([dq aZ p.Rules,dq bC t_.Nodes,dq bJ t_.Leaves]++cR v4++[oi 0,oi 0,oi 0,oi 0,oi 0,oi 0,oi 0,oi 0,oi 0,oi 0,.hd 2]) 63,.mp .str false (WM Value.string eB []),rG tV]) (fun y hm Kn3 aP=>?_) fun t h=>?_
    ·have h:=hm;clear hm;cbv;refine .g h (fun _=>rfl) fun x9 h=>?_;cbv;refine .g h (fun ((mD,v11):(List Live)×Int)=>rp 4 .top++[.ptr 0 0,.top,.ptr 1 0,.hd 3,oi v7]++rp 18 .top++[dq aZ p.Rules,oi (io.len (W aZ p.Rules)),oi v7]++rp 6 .top++[oi (io.len (W dD x9.ay)),oi v11]++rp 19 .top) (fun (mD,v11)=>[.cells [oi 0,oi 0,oi 0,oi 0,oi 0,oi 0,oi 0,oi 0,oi 0,oi 0] 32,.cells ([dq aZ p.Rules,dq bC t_.Nodes,dq bJ t_.Leaves]++cR v4++[oi 0,oi 0,oi 0,oi 0,oi 0,oi 0,oi 0,oi 0,oi 0,oi 0,.hd 2]) 63,.mp .str false (WM Value.string eB []),rG mD]) (.nz (.aB [0,1,2,3] ?_)) fun s x h hr4 ku aY=>?_
     ·exact mx
     unfold Oc at h;obtain⟨mD,v11⟩:=s;cbv;refine aG h ?_ ?_<;>intro h
     ·cbv;refine .g (e:=jX) h (gU aJ (jP _)) fun l12 h=>?_;cbv;refine .g h rfl (fun _=>rfl) (by decide) fun Bq h=>?_;cbv;obtain rfl:=oj h;exact aY _ _ _ rfl (.nz (.aB [0,1,2,5] mx))
     ·cbv;obtain rfl:=oj h;obtain rfl:=hr4 _ rfl;exact aP _ _ _ rfl (.nz (.aB [0,1,2,3] mx))
    obtain⟨tV,rfl⟩:=ez t;cbv;obtain rfl:=oj h;exact bg _ _ _ rfl (.nz (.aB [0,1,2,3] mx))
   ·cbv;obtain rfl:=oj h;obtain rfl:=hr2 _ rfl;exact aC _ _ _ rfl (.nz (.aB [0,1,2,3] mx))
  obtain⟨tX,rfl⟩:=ez t;cbv;refine .g h (fun ((iH,tN,v16):(aF Int)×(List (ByteArray×Bool))×Bool)=>rp 4 .top++[.ptr 0 0,.top,.ptr 1 0]++rp 44 .top++[ob v16]++rp 5 .top) (fun (iH,tN,v16)=>[.cells [oi 0,oi 0,oi 0,oi 0,oi 0,oi 0,oi 0,oi 0,oi 0,oi 0] 32,.cells ([dq aZ p.Rules,dq bC t_.Nodes,dq bJ t_.Leaves]++cR v4++(ca iH++[.hd 2])) 63,.mp .str false (WM Value.string eB tN)]) (fun y hm Kn1 aC=>?_) fun t h=>?_
  ·have h:=hm;clear hm;cbv;obtain⟨WR,hm,h⟩:=Option.bind_eq_some_iff.1 h;refine .DL [1,2] (wr1 hP p.Rules t_.Nodes t_.Leaves v4 11 _ _ _ _ _ _ hm) mx fun sv0 dG hq _=>?_;obtain⟨rfl,rfl⟩:=hq;clear hm;cbv;obtain rfl:=oj h;exact aC _ _ _ rfl (.nz (.aB [0,1,2] mx))
  obtain⟨iH,tN,v16⟩:=t;cbv;refine aG h ?_ ?_<;>intro h
  ·cbv;obtain rfl:=oj h;exact hK _ _ aJ
  ·cbv;obtain rfl:=oj h;exact hK _ _ aJ
def c5r0 : List ah:=gS 0 [.mv (cB false)]
def c5r1 : List ah:=gS 21 [.call 19 []]++gS 1 [.alloc 44 (.agg #[(.bool false),(.bool false),(.bool false),oz,oz,oz,oz,oz,oz,oz,oz,oz,oz,oz,oz,oz])]++[⟨none,.store 16 1 21,none⟩]
def c5r2 : List ah:=gS 22 [.build (.agg #[oz,(.slice none 0 0),(.slice none 0 0),oz]) [],.aU 50 4 1 (.agg #[oz,(.slice none 0 0),(.slice none 0 0),oz]) [(0,22)],.load 16 true 1,.aU 44 16 1 (.agg #[(.bool false),(.bool false),(.bool false),oz,oz,oz,oz,oz,oz,oz,oz,oz,oz,oz,oz,oz]) [(0,24)],.build (.agg #[(.slice none 0 0),(.slice none 0 0)]) [((0,1),23),((1,1),25)]]++gS 2 [.alloc 28 (.agg #[(.slice none 0 0),(.slice none 0 0)])]++[⟨none,.store 2 2 26,none⟩]
def c5r3 : List ah:=gS 28 [.build (.agg #[(.slice none 0 0)]) [],.load 2 true 2,.call 7 [28,29]]++gS 27 [.mv 30]++gS 31 [.ext 27 0,.ext 27 1]++gS 3 [.alloc 32 (.agg #[oz,oz,oz,oz,oz,oz,oz,oz,oz,oz])]++[⟨none,.store 10 3 31,none⟩]++gS 4 [.mv 32]
def c5r4 : List ah:=gS 33 [.aj 4 1]++[⟨none,.store 1 33 (ci 5),none⟩]
def c5r5 : List ah:=gS 35 [.build (.agg #[(.slice none 0 0)]) [],.build (.agg #[oz,(.slice none 0 0),(.slice none 0 0),oz]) [],.aU 50 4 1 (.agg #[oz,(.slice none 0 0),(.slice none 0 0),oz]) [(0,36)],.load 16 true 1,.aU 44 16 1 (.agg #[(.bool false),(.bool false),(.bool false),oz,oz,oz,oz,oz,oz,oz,oz,oz,oz,oz,oz,oz]) [(0,38)],.build (.agg #[(.slice none 0 0),(.slice none 0 0)]) [((0,1),37),((1,1),39)],.call 7 [35,40]]++gS 34 [.mv 41]++gS 42 [.ext 34 0,.ext 34 1]++gS 5 [.alloc 32 (.agg #[oz,oz,oz,oz,oz,oz,oz,oz,oz,oz])]++[⟨none,.store 10 5 42,none⟩]++gS 6 [.mv 43]
def c5r6 : List ah:=gS 44 [.build (.agg #[oz,oz]) [((1,1),(ci 1))]]++gS 7 [.alloc 42 (.agg #[oz,oz])]++[⟨none,.store 2 7 44,none⟩]
def c5r7 : List ah:=gS 45 [.call 20 [],.aU 54 20 1 (.agg #[oz,oz,oz,oz,oz,oz,oz,oz,oz,oz,oz,oz,oz,oz,oz,oz,oz,oz,oz,oz]) [(0,45)],.build (.agg #[oz,(.string ⟨#[]⟩),(.slice none 0 0),oz,oz,oz,oz,oz]) [((0,1),(ci 1)),((1,1),(.const (.string ⟨#[97]⟩))),((2,1),46)],.load 2 true 7,.load 2 true 7,.call 20 [],.aU 54 20 1 (.agg #[oz,oz,oz,oz,oz,oz,oz,oz,oz,oz,oz,oz,oz,oz,oz,oz,oz,oz,oz,oz]) [(0,50)],.build (.agg #[oz,(.string ⟨#[]⟩),(.slice none 0 0),oz,oz,oz,oz,oz]) [((0,1),(ci 3)),((1,1),(.const (.string ⟨#[112]⟩))),((3,1),(ci 100)),((4,2),48),((6,2),49),((2,1),51)],.aU 58 8 2 (.agg #[oz,(.string ⟨#[]⟩),(.slice none 0 0),oz,oz,oz,oz,oz]) [(0,47),(1,52)],.build (.agg #[(.slice none 0 0)]) [((0,1),53)]]++gS 8 [.alloc 24 (.agg #[(.slice none 0 0)])]++[⟨none,.store 1 8 54,none⟩]
def c5r8 : List ah:=gS 55 [.call 19 []]++gS 9 [.alloc 44 (.agg #[(.bool false),(.bool false),(.bool false),oz,oz,oz,oz,oz,oz,oz,oz,oz,oz,oz,oz,oz])]++[⟨none,.store 16 9 55,none⟩]
def c5r9 : List ah:=gS 56 [.aj 0 9]++[⟨none,.store 1 56 (cB true),none⟩]++gS 57 [.aj 4 9]++[⟨none,.store 1 57 (ci 100),none⟩]++gS 58 [.aj 15 9]++[⟨none,.store 1 58 (ci 0),none⟩]
def vi3 : List ah:=gS 59 [.load 16 true 9]++gS 10 [.alloc 44 (.agg #[(.bool false),(.bool false),(.bool false),oz,oz,oz,oz,oz,oz,oz,oz,oz,oz,oz,oz,oz])]++[⟨none,.store 16 10 59,none⟩]
def ve3 : List ah:=gS 60 [.aj 0 10]++[⟨none,.store 1 60 (cB false),none⟩]
def va3 : List ah:=gS 61 [.aU 3 1 1 oz [(0,(ci 18))],.aU 3 1 2 oz [(0,(ci 1)),(1,(ci 2))],.build (.agg #[oz,(.slice none 0 0),(.slice none 0 0),oz]) [((0,1),(ci 1)),((1,1),61),((2,1),62)],.build (.agg #[oz,(.slice none 0 0),(.slice none 0 0),oz]) [],.build (.agg #[oz,(.slice none 0 0),(.slice none 0 0),oz]) [((3,1),(ci 1))],.aU 50 4 3 (.agg #[oz,(.slice none 0 0),(.slice none 0 0),oz]) [(0,63),(1,64),(2,65)],.load 16 true 10,.load 16 true 9,.aU 44 16 2 (.agg #[(.bool false),(.bool false),(.bool false),oz,oz,oz,oz,oz,oz,oz,oz,oz,oz,oz,oz,oz]) [(0,67),(1,68)],.build (.agg #[(.slice none 0 0),(.slice none 0 0)]) [((0,1),66),((1,1),69)]]++gS 11 [.alloc 28 (.agg #[(.slice none 0 0),(.slice none 0 0)])]++[⟨none,.store 2 11 70,none⟩]
def vr3 : List ah:=gS 71 [.aU 3 1 1 oz [(0,(ci 18))],.aU 3 1 2 oz [(0,(ci 1)),(1,(ci 2))],.build (.agg #[oz,(.slice none 0 0),(.slice none 0 0),oz]) [((0,1),(ci 1)),((1,1),71),((2,1),72)],.build (.agg #[oz,(.slice none 0 0),(.slice none 0 0),oz]) [],.build (.agg #[oz,(.slice none 0 0),(.slice none 0 0),oz]) [((3,1),(ci 1))],.aU 50 4 3 (.agg #[oz,(.slice none 0 0),(.slice none 0 0),oz]) [(0,73),(1,74),(2,75)],.load 16 true 9,.load 16 true 10,.aU 44 16 2 (.agg #[(.bool false),(.bool false),(.bool false),oz,oz,oz,oz,oz,oz,oz,oz,oz,oz,oz,oz,oz]) [(0,77),(1,78)],.build (.agg #[(.slice none 0 0),(.slice none 0 0)]) [((0,1),76),((1,1),79)]]++gS 12 [.alloc 28 (.agg #[(.slice none 0 0),(.slice none 0 0)])]++[⟨none,.store 2 12 80,none⟩]
def vn3 : List ah:=gS 82 [.load 1 true 8,.load 2 true 11,.call 7 [82,83]]++gS 81 [.mv 84]++gS 85 [.ext 81 0,.ext 81 1]++gS 13 [.alloc 32 (.agg #[oz,oz,oz,oz,oz,oz,oz,oz,oz,oz])]++[⟨none,.store 10 13 85,none⟩]++gS 14 [.mv 86]
def vt3 : List ah:=gS 88 [.load 1 true 8,.load 2 true 12,.call 7 [88,89]]++gS 87 [.mv 90]++gS 91 [.ext 87 0,.ext 87 1]++gS 15 [.alloc 32 (.agg #[oz,oz,oz,oz,oz,oz,oz,oz,oz,oz])]++[⟨none,.store 10 15 91,none⟩]++gS 16 [.mv 92]
def vl3 : List ah:=gS 94 [.load 1 true 8,.build (.agg #[(.slice none 0 0),(.slice none 0 0)]) [],.call 7 [94,95]]++gS 93 [.mv 96]++gS 97 [.ext 93 0,.ext 93 1]++gS 17 [.alloc 32 (.agg #[oz,oz,oz,oz,oz,oz,oz,oz,oz,oz])]++[⟨none,.store 10 17 97,none⟩]++gS 18 [.mv 98]
def vd3 : List ah:=gS 99 [.call 21 []]++gS 19 [.alloc 32 (.agg #[oz,oz,oz,oz,oz,oz,oz,oz,oz,oz])]++[⟨none,.store 10 19 99,none⟩]
def vc3 : List ah:=gS 100 [.load 10 true 19]++gS 20 [.alloc 32 (.agg #[oz,oz,oz,oz,oz,oz,oz,oz,oz,oz])]++[⟨none,.store 10 20 100,none⟩]
def vm3 : List ah:=gS 101 [.eH 10 1 20 (ci 1)]++[⟨none,.store 1 101 (ci 18),none⟩]
def vf3 : List ah:=gS 102 [.mv 4,.un .not 102,.mv 103]++gQ 104 true 105 [.load 10 true 3,.build (.agg #[oz,oz,oz,oz,oz,oz,oz,oz,oz,oz]) [],.beq false [.int,.int,.int,.int,.int,.int,.int,.int,.int,.int] 105 106]++gS 108 [.pick 104 107 (cB false),.mv 108]++gQ 109 true 110 [.mv 6]++gS 111 [.pick 109 110 (cB false),.mv 111]++gQ 112 true 113 [.load 10 true 5,.load 10 true 19,.beq false [.int,.int,.int,.int,.int,.int,.int,.int,.int,.int] 113 114]++gS 116 [.pick 112 115 (cB false),.mv 116]++gQ 117 true 118 [.mv 14]++gS 119 [.pick 117 118 (cB false),.mv 119]++gQ 120 true 121 [.load 10 true 13,.load 10 true 19,.beq false [.int,.int,.int,.int,.int,.int,.int,.int,.int,.int] 121 122]++gS 124 [.pick 120 123 (cB false),.mv 124]++gQ 125 true 126 [.mv 16]++gS 127 [.pick 125 126 (cB false),.mv 127]++gQ 128 true 129 [.load 10 true 15,.load 10 true 20,.beq false [.int,.int,.int,.int,.int,.int,.int,.int,.int,.int] 129 130]++gS 132 [.pick 128 131 (cB false),.mv 132]++gQ 133 true 134 [.mv 18]++gS 135 [.pick 133 134 (cB false)]++gS 0 [.mv 135]
def c5 : fJ:=⟨136,.seq (.reg c5r0) (.seq (.reg c5r1) (.seq (.reg c5r2) (.seq (.reg c5r3) (.seq (.reg c5r4) (.seq (.reg c5r5) (.seq (.reg c5r6) (.seq (.par false false false 11 c5r7) (.seq (.reg c5r8) (.seq (.reg c5r9) (.seq (.reg vi3) (.seq (.reg ve3) (.seq (.reg va3) (.seq (.reg vr3) (.seq (.reg vn3) (.seq (.reg vt3) (.seq (.reg vl3) (.seq (.reg vd3) (.seq (.reg vc3) (.seq (.reg vm3) (.seq (.reg vf3) (.ret))))))))))))))))))))),[.tmp 0]⟩
theorem vo3 : fD Tryz.prog 5=some c5.er:=by kernel_rfl
set_option maxHeartbeats 4000000 in
theorem jf1 {P:Program}(hP:P=Tryz.prog)(r:Bool)(h:QL=some r):Fn1 P 5 [] (vB r):=by
 refine .mJ (hP▸vo3) fun K hK=>?_;unfold QL at h;cbv;refine .g h (fun v hv=>nl0 hP v hv) aJ rfl (fun _=>rfl) fun v1 h=>?_;cbv;refine .g (e:=bC) h (gU aJ (jP _)) fun l2 h=>?_;cbv;refine .g (e:=bJ) h (gU aJ (jP _)) fun l3 h=>?_;cbv;refine .g h (fun v hv=>Oe hP _ _ v hv) aJ rfl (fun _=>rfl) fun v4 h=>?_;cbv;refine .g (e:=bC) h (gU aJ (jP _)) fun l5 h=>?_;cbv;refine .g (e:=bJ) h (gU aJ (jP _)) fun l6 h=>?_;cbv;refine .g h (fun v hv=>Oe hP _ _ v hv) aJ rfl (fun _=>rfl) fun v7 h=>?_;cbv;refine .g h (fun v hv=>Jb hP v hv) aJ rfl (fun _=>rfl) fun v8 h=>?_;cbv;refine .g (e:=dD) h (gU aJ (jP _)) fun l9 h=>?_;cbv;refine .g h (fun v hv=>Jb hP v hv) aJ rfl (fun _=>rfl) fun v10 h=>?_;cbv;refine .g (e:=dD) h (gU aJ (jP _)) fun JO h=>?_;cbv;refine .g (e:=aZ) h (gU aJ (gU aJ (jP _))) fun l12 h=>?_;cbv;refine .g h (fun v hv=>nl0 hP v hv) aJ rfl (fun _=>rfl) fun v13 h=>?_;cbv;refine .g (e:=aH) h (gU aJ (jP _)) fun Ap h=>?_;cbv;refine .g (e:=aH) h (gU aJ (gU aJ (jP _))) fun l15 h=>?_;cbv;refine .g (e:=bC) h (gU aJ (gU aJ (gU aJ (jP _)))) fun SI h=>?_;cbv;refine .g (e:=bJ) h (gU aJ (gU aJ (jP _))) fun l17 h=>?_;cbv;refine .g (e:=aH) h (gU aJ (jP _)) fun JM h=>?_;cbv;refine .g (e:=aH) h (gU aJ (gU aJ (jP _))) fun l19 h=>?_;cbv;refine .g (e:=bC) h (gU aJ (gU aJ (gU aJ (jP _)))) fun SH h=>?_;cbv;refine .g (e:=bJ) h (gU aJ (gU aJ (jP _))) fun JL h=>?_;cbv;refine .g h (fun v hv=>Oe hP _ _ v hv) aJ rfl (fun _=>rfl) fun v22 h=>?_;cbv;refine .g h (fun v hv=>Oe hP _ _ v hv) aJ rfl (fun _=>rfl) fun v23 h=>?_;cbv;refine .g h (fun v hv=>Oe hP _ _ v hv) aJ rfl (fun _=>rfl) fun v24 h=>?_;cbv;refine .g h (fun v hv=>lk0 hP v hv) aJ rfl (fun _=>rfl) fun v25 h=>?_;cbv;refine .lit 1 rfl (by decide) ?_;cbv;refine aG h ?_ ?_<;>intro h
 ·cbv;refine aG h ?_ ?_<;>intro h
  ·cbv;refine aG h ?_ ?_<;>intro h
   ·cbv;refine aG h ?_ ?_<;>intro h
    ·cbv;refine aG h ?_ ?_<;>intro h
     ·cbv;refine aG h ?_ ?_<;>intro h
      ·cbv;refine aG h ?_ ?_<;>intro h
       ·cbv;refine aG h ?_ ?_<;>intro h
        ·cbv;obtain rfl:=oj h;exact hK _ _ aJ
        ·cbv;obtain rfl:=oj h;exact hK _ _ aJ
       ·cbv;obtain rfl:=oj h;exact hK _ _ aJ
      ·cbv;obtain rfl:=oj h;exact hK _ _ aJ
     ·cbv;obtain rfl:=oj h;exact hK _ _ aJ
    ·cbv;obtain rfl:=oj h;exact hK _ _ aJ
   ·cbv;obtain rfl:=oj h;exact hK _ _ aJ
  ·cbv;obtain rfl:=oj h;exact hK _ _ aJ
 ·cbv;obtain rfl:=oj h;exact hK _ _ aJ
end Go.SX.Td
