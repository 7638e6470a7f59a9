/- Parts of the proof. -/
import Derived.Test.YtllbabjgpdmblaaGreatDoorZTdT
import Derived.Test.YtllbabjgpdmblaaGreatDoorZTd32d
import Derived.Test.YtllbabjgpdmblaaGreatDoorZTryzShelf
import Derived.Test.YtllbabjgpdmblaaGreatDoorZTdCompact
import Derived.Test.YtllbabjgpdmblaaGreatDoorZTd49
set_option linter.unusedSimpArgs false
set_option linter.unusedVariables false
set_option linter.unusedSectionVars false
namespace Go.SX.Td
open Go Go.SX Go.Proofs
set_option maxRecDepth 100000
noncomputable def HY (t_:Table):((List (ByteArray×Bool))×(List (Decision×Bool))×Int×Int)->Option (((List (ByteArray×Bool))×(List (Decision×Bool))×Int×Int) ⊕ ((Int) ⊕ (Bool)))
 |(nP,fE,kT,v6) =>
 bif (io.lt v6 (io.len (W bC t_.Nodes))) then (
 gu (
 Option.bind (bU t_.Nodes v6) fun x10 =>
 Option.bind (some [x10.Attr,x10.Leaf]) fun JO =>
 Option.bind (some [x10.aI,x10.Kids,JO]) fun l12 =>
 Option.bind (LZ l12) fun BL =>
 Option.bind (
 Option.bind (some (nI nP BL false)) fun Wy =>
 bif Wy then (
 some true
 ) else (
 Option.bind (Gp t_ x10) fun v16 =>
 some (io.not v16)
 )
 ) fun v14 =>
 bif v14 then (
 some (.inr (.inr (.inr false)))
 ) else (
 Option.bind (some (sW nP BL true)) fun m17 =>
 bif (io.eq (io.len (W aH x10.Kids)) 0) then (
 Option.bind (
 bif (io.not (io.eq x10.Leaf kT)) then (
 some true
 ) else (
 Option.bind (bU t_.Leaves kT) fun x19 =>
 Option.bind (some (nI fE x19 false)) fun y20 =>
 some y20
 )
 ) fun v18 =>
 bif v18 then (
 some (.inr (.inr (.inr false)))
 ) else (
 Option.bind (bU t_.Leaves kT) fun x21 =>
 Option.bind (some (sW fE x21 true)) fun m22 =>
 some (.inl (m17,m22,(io.ar .add .i64 kT 1)))
 )
 ) else (
 some (.inl (m17,fE,kT))
 )
 )
 ) fun (uG,jJ,yA) =>
 some (.inl (uG,jJ,yA,(io.ar .add .i64 v6 1)))
 ) else (
 some (.inr (.inl kT))
 )
noncomputable def zQ (t_:Table):Option (Bool) :=
 Option.bind (
 bif (io.lt (io.len (W bC t_.Nodes)) 1) then (
 some true
 ) else (
 some (io.lt 20000 (io.len (W bC t_.Nodes)))
 )
 ) fun v1 =>
 bif v1 then (
 some false
 ) else (
 gu (
 dw (HY t_) ([],[],0,0)
 ) fun wK =>
 Option.bind (
 Option.bind (Lc t_.Nodes 11 0 ([]:(List (Int×Bool))) 0) fun r24 =>
 some r24.2
 ) fun uz =>
 bif (io.eq uz (io.len (W bC t_.Nodes))) then (
 some (io.eq wK (io.len (W bJ t_.Leaves)))
 ) else (
 some false
 )
 )
noncomputable def O5 (zones:(List Live))(rules:(List Rule))(attr:Int)(limits:(aF Range)):((List Int)×Int)->Option (((List Int)×Int) ⊕ ((List Int)))
 |(nM,v6) =>
 bif (io.lt v6 (io.len (W jX zones))) then (
 Option.bind (
 Option.bind (bU zones v6) fun x8 =>
 Option.bind (
 Option.bind (bU rules x8.rule) fun x11 =>
 Option.bind (bU x11.ay x8.zone) fun x12 =>
 Option.bind (oh 10 attr) fun TY =>
 some ((x12.get TY).Lo,(x12.get TY).Hi)
 ) fun (zi,lY) =>
 Option.bind (
 Option.bind (
 Option.bind (oh 10 attr) fun TP =>
 bif (io.lt (limits.get TP).Lo zi) then (
 some (io.le zi (limits.get TP).Hi)
 ) else (
 some false
 )
 ) fun v15 =>
 bif v15 then (
 Option.bind (some [zi]) fun l17 =>
 Option.bind (appG nM l17) fun JM =>
 some JM
 ) else (
 some nM
 )
 ) fun nH =>
 Option.bind (
 Option.bind (oh 10 attr) fun i20 =>
 bif (io.lt (limits.get i20).Lo (io.ar .add .i64 lY 1)) then (
 some (io.le (io.ar .add .i64 lY 1) (limits.get i20).Hi)
 ) else (
 some false
 )
 ) fun v19 =>
 bif v19 then (
 Option.bind (some [(io.ar .add .i64 lY 1)]) fun JL =>
 Option.bind (appG nH JL) fun l22 =>
 some l22
 ) else (
 some nH
 )
 ) fun En =>
 some (.inl (En,(io.ar .add .i64 v6 1)))
 ) else (
 some (.inr nM)
 )
noncomputable def OX (x27:Node)(attr:Int)(limits:(aF Range)):((List Int)×Int)->Option (((List Int)×Int) ⊕ ((List Int)))
 |(rY,v29) =>
 bif (io.lt v29 (io.len (W aH x27.aI))) then (
 Option.bind (
 Option.bind (bU x27.aI v29) fun x31 =>
 Option.bind (
 Option.bind (oh 10 attr) fun i33 =>
 bif (io.lt (limits.get i33).Lo x31) then (
 some (io.le x31 (limits.get i33).Hi)
 ) else (
 some false
 )
 ) fun v32 =>
 bif v32 then (
 Option.bind (some [x31]) fun l34 =>
 Option.bind (appG rY l34) fun l35 =>
 some l35
 ) else (
 some rY
 )
 ) fun yh =>
 some (.inl (yh,(io.ar .add .i64 v29 1)))
 ) else (
 some (.inr rY)
 )
noncomputable def Rw (rules:(List Rule))(nodes:(List Node))(leaves:(List Decision))(limits:(aF Range))(attr:Int)(zones:(List Live))(node:Int)(facts:(aF Int))(equal:(List (ByteArray×Bool))):Option ((List Int)) :=
 Option.bind (
 Option.bind (oh 10 attr) fun i2 =>
 Option.bind (some [(limits.get i2).Lo]) fun l3 =>
 some l3
 ) fun out1 =>
 Option.bind (
 dw (O5 zones rules attr limits) (out1,0)
 ) fun qm =>
 Option.bind (
 Option.bind (
 Option.bind (bU nodes node) fun x25 =>
 bif (io.lt 0 (io.len (W aH x25.Kids))) then (
 Option.bind (bU nodes node) fun KW =>
 some (io.eq KW.Attr attr)
 ) else (
 some false
 )
 ) fun v24 =>
 bif v24 then (
 Option.bind (bU nodes node) fun x27 =>
 dw (OX x27 attr limits) (qm,0)
 ) else (
 some qm
 )
 ) fun yj =>
 Option.bind (
 Option.bind (KZ yj) fun l37 =>
 some l37
 ) fun yg =>
 Option.bind (Lp yg) fun l38 =>
 some l38
noncomputable def Qo (zones:(List Live))(rules:(List Rule))(attr:Int)(x16:Int):((List Live)×Int)->Option (((List Live)×Int) ⊕ ((List Live)))
 |(kN,v21) =>
 bif (io.lt v21 (io.len (W jX zones))) then (
 Option.bind (
 Option.bind (bU zones v21) fun x23 =>
 Option.bind (
 Option.bind (bU rules x23.rule) fun KW =>
 Option.bind (bU KW.ay x23.zone) fun x27 =>
 Option.bind (oh 10 attr) fun i28 =>
 some ((x27.get i28).Lo,(x27.get i28).Hi)
 ) fun (F8,Gg) =>
 Option.bind (
 bif (io.le F8 x16) then (
 some (io.le x16 Gg)
 ) else (
 some false
 )
 ) fun v29 =>
 bif v29 then (
 Option.bind (some [x23]) fun SG =>
 Option.bind (appG kN SG) fun Eh =>
 some Eh
 ) else (
 some kN
 )
 ) fun uh =>
 some (.inl (uh,(io.ar .add .i64 v21 1)))
 ) else (
 some (.inr kN)
 )
noncomputable def Qj (v9:Int)(v8:(List Int))(attr:Int)(zones:(List Live))(rules:(List Rule))(nodes:(List Node))(node:Int)(leaves:(List Decision))(limits:(aF Range))(rec:(Int->(List Live)->Int->(aF Int)->(List (ByteArray×Bool))->Option (Bool×(aF Int)×(List (ByteArray×Bool))))):((aF Int)×(List (ByteArray×Bool))×Int)->Option (((aF Int)×(List (ByteArray×Bool))×Int) ⊕ (((aF Int)×(List (ByteArray×Bool))) ⊕ (Bool×(aF Int)×(List (ByteArray×Bool)))))
 |(mQ,iM,v13) =>
 bif (io.lt v13 v9) then (
 gu (
 Option.bind (bU v8 v13) fun x16 =>
 Option.bind (
 Option.bind (oh 10 attr) fun i18 =>
 some (mQ.put i18 x16)
 ) fun fP =>
 Option.bind (
 dw (Qo zones rules attr x16) ([],0)
 ) fun nK =>
 Option.bind (
 Option.bind (
 Option.bind (bU nodes node) fun x34 =>
 bif (io.lt 0 (io.len (W aH x34.Kids))) then (
 Option.bind (bU nodes node) fun WA =>
 some (io.eq WA.Attr attr)
 ) else (
 some false
 )
 ) fun v33 =>
 bif v33 then (
 Option.bind (Qc rules nodes leaves limits node x16 fP iM) fun WQ =>
 some WQ
 ) else (
 some node
 )
 ) fun uy =>
 Option.bind (
 Option.bind (rec (io.ar .add .i64 attr 1) nK uy fP iM) fun WO =>
 some (WO.2.1,WO.2.2,WO.1)
 ) fun (mP,wH,v39) =>
 bif v39 then (
 some (.inr (.inr (.inr (true,mP,wH))))
 ) else (
 some (.inl (mP,wH))
 )
 ) fun (iH,yc) =>
 some (.inl (iH,yc,(io.ar .add .i64 v13 1)))
 ) else (
 some (.inr (.inl (mQ,iM)))
 )
noncomputable def Xo (rules:(List Rule))(nodes:(List Node))(leaves:(List Decision))(limits:(aF Range))(rec:(Int->(List Live)->Int->(aF Int)->(List (ByteArray×Bool))->Option (Bool×(aF Int)×(List (ByteArray×Bool)))))(attr:Int)(zones:(List Live))(node:Int)(facts:(aF Int))(equal:(List (ByteArray×Bool))):Option (Bool×(aF Int)×(List (ByteArray×Bool))) :=
 bif (io.eq attr 10) then (
 Option.bind (bU nodes node) fun x1 =>
 Option.bind (bU leaves x1.Leaf) fun x2 =>
 Option.bind (PX (au.mk rules) facts) fun v3 =>
 some ((io.not (Ez x2 v3)),facts,equal)
 ) else (
 Option.bind (QO attr node zones) fun k4 =>
 Option.bind (some (nI equal k4 false)) fun y5 =>
 bif y5 then (
 some (false,facts,equal)
 ) else (
 gu (
 Option.bind (
 Option.bind (Rw rules nodes leaves limits attr zones node facts equal) fun r10 =>
 some (r10,(io.len (W aH r10)))
 ) fun (v8,v9) =>
 dw (Qj v9 v8 attr zones rules nodes node leaves limits rec) (facts,equal,0)
 ) fun (uP,Em) =>
 Option.bind (some (sW Em k4 true)) fun m41 =>
 some (false,uP,m41)
 )
 )
noncomputable def Jp (rules:(List Rule))(nodes:(List Node))(leaves:(List Decision))(limits:(aF Range)):Nat->Int->(List Live)->Int->(aF Int)->(List (ByteArray×Bool))->Option (Bool×(aF Int)×(List (ByteArray×Bool)))
 |0,_,_,_,_,_=>none
 |n+1,attr,zones,node,facts,equal=>Xo rules nodes leaves limits (Jp rules nodes leaves limits n) attr zones node facts equal
noncomputable def Oc (x9:Rule)(v7:Int):((List Live)×Int)->Option (((List Live)×Int) ⊕ ((List Live)))
 |(mD,v11) =>
 bif (io.lt v11 (io.len (W dD x9.ay))) then (
 Option.bind (some [(Live.mk v7 v11)]) fun l12 =>
 Option.bind (appG mD l12) fun Bq =>
 some (.inl (Bq,(io.ar .add .i64 v11 1)))
 ) else (
 some (.inr mD)
 )
noncomputable def Oj (p:au):((List Live)×Int)->Option (((List Live)×Int) ⊕ ((List Live)))
 |(pX,v7) =>
 bif (io.lt v7 (io.len (W aZ p.Rules))) then (
 Option.bind (
 Option.bind (bU p.Rules v7) fun x9 =>
 dw (Oc x9 v7) (pX,0)
 ) fun tV =>
 some (.inl (tV,(io.ar .add .i64 v7 1)))
 ) else (
 some (.inr pX)
 )
noncomputable def uj (p:au)(t_:Table):Option ((aF Int)×Bool) :=
 Option.bind (
 Option.bind (QD p) fun v2 =>
 bif (io.not v2) then (
 some true
 ) else (
 Option.bind (zQ t_) fun v3 =>
 some (io.not v3)
 )
 ) fun v1 =>
 bif v1 then (
 some ((aF.mk 0 0 0 0 0 0 0 0 0 0),true)
 ) else (
 Option.bind (KX) fun v4 =>
 Option.bind (
 dw (Oj p) ([],0)
 ) fun tX =>
 Option.bind (
 Option.bind (Jp p.Rules t_.Nodes t_.Leaves v4 11 0 tX 0 (aF.mk 0 0 0 0 0 0 0 0 0 0) ([]:(List (ByteArray×Bool)))) fun WR =>
 some (WR.2.1,WR.2.2,(io.not WR.1))
 ) fun (iH,tN,v16) =>
 bif v16 then (
 some ((aF.mk 0 0 0 0 0 0 0 0 0 0),false)
 ) else (
 some (iH,true)
 )
 )
noncomputable def QL : Option (Bool) :=
 Option.bind (QV) fun v1 =>
 Option.bind (some [(Node.mk 0 [] [] 0)]) fun l2 =>
 Option.bind (some [v1]) fun l3 =>
 Option.bind (uj (au.mk []) (Table.mk l2 l3)) fun v4 =>
 Option.bind (some [(Node.mk 0 [] [] 0)]) fun l5 =>
 Option.bind (some [(Decision.mk v1.Allowed v1.Together v1.Single v1.Limit 5 v1.pG v1.oQ v1.Cap v1.eF v1.dH v1.By)]) fun l6 =>
 Option.bind (uj (au.mk []) (Table.mk l5 l6)) fun v7 =>
 Option.bind (Bo) fun v8 =>
 Option.bind (some [v8]) fun l9 =>
 Option.bind (Bo) fun v10 =>
 Option.bind (some [v10]) fun JO =>
 Option.bind (some [(Rule.mk 1 (⟨#[97]⟩) l9 0 (Ratio.mk 0 0) (Ratio.mk 0 0)),(Rule.mk 3 (⟨#[112]⟩) JO 100 (Ratio.mk 0 1) (Ratio.mk 0 1))]) fun l12 =>
 Option.bind (QV) fun v13 =>
 Option.bind (some [18]) fun Ap =>
 Option.bind (some [1,2]) fun l15 =>
 Option.bind (some [(Node.mk 1 Ap l15 0),(Node.mk 0 [] [] 0),(Node.mk 0 [] [] 1)]) fun SI =>
 Option.bind (some [(Decision.mk false v13.Together v13.Single v13.Limit 100 v13.pG v13.oQ v13.Cap v13.eF v13.dH 0),(Decision.mk true v13.Together v13.Single v13.Limit 100 v13.pG v13.oQ v13.Cap v13.eF v13.dH 0)]) fun l17 =>
 Option.bind (some [18]) fun JM =>
 Option.bind (some [1,2]) fun l19 =>
 Option.bind (some [(Node.mk 1 JM l19 0),(Node.mk 0 [] [] 0),(Node.mk 0 [] [] 1)]) fun SH =>
 Option.bind (some [(Decision.mk true v13.Together v13.Single v13.Limit 100 v13.pG v13.oQ v13.Cap v13.eF v13.dH 0),(Decision.mk false v13.Together v13.Single v13.Limit 100 v13.pG v13.oQ v13.Cap v13.eF v13.dH 0)]) fun JL =>
 Option.bind (uj (au.mk l12) (Table.mk SI l17)) fun v22 =>
 Option.bind (uj (au.mk l12) (Table.mk SH JL)) fun v23 =>
 Option.bind (uj (au.mk l12) (Table.mk [] [])) fun v24 =>
 Option.bind (QJ) fun v25 =>
 bif (io.not v4.2) then (
 bif (Ea v4.1 (aF.mk 0 0 0 0 0 0 0 0 0 0)) then (
 bif v7.2 then (
 bif (Ea v7.1 v25) then (
 bif v22.2 then (
 bif (Ea v22.1 v25) then (
 bif v23.2 then (
 bif (Ea v23.1 (aF.mk v25.a0 18 v25.a2 v25.a3 v25.a4 v25.a5 v25.a6 v25.a7 v25.a8 v25.a9)) then (
 some v24.2
 ) else (
 some false
 )
 ) else (
 some false
 )
 ) else (
 some false
 )
 ) else (
 some false
 )
 ) else (
 some false
 )
 ) else (
 some false
 )
 ) else (
 some false
 )
 ) else (
 some false
 )
def dx3 : List ah:=gS 3 [.box 25 0]++gS 5 [.box 95 2]
def dj3 : List ah:=gS 8 [.DI (.int .i64) false]++gS 6 [.alloc 134 (.map none)]++[⟨none,.store 1 6 8,none⟩]
def dz3 : List ah:=gS 7 [.alloc 95 .nilFunc]
def dq3 : List ah:=gS 9 [.jE (.func 81) [] [6,5,3,7]]++[⟨none,.store 1 7 9,none⟩]
def fi3 : List ah:=gS 10 [.load 1 false 7,.mv 1,.fZ 10 [11]]
def c40 : fJ:=⟨13,.seq (.reg dx3) (.seq (.reg dj3) (.seq (.reg dz3) (.seq (.reg dq3) (.reg fi3)))),[]⟩
theorem au2 : fD Tryz.prog 40=some c40.er:=by kernel_rfl
def li3 : List ah:=gS 1 [.box 28 0,.mv (cB false)]
def le3 : List ah:=gS 10 [.aj 0 1,.load 1 false 10,.len false 11,.bin .lss 12 (ci 1),.mv 13]++gQ 14 false 15 [.aj 0 1,.load 1 false 15,.len false 16,.bin .gtr 17 (ci 20000)]++gS 19 [.pick 14 (cB true) 18]
def la3 : List ah:=gS 2 [.mv (cB false)]
def lr3 : List ah:=gS 20 [.DI .str false,.DI (.agg [.bool,.bool,.bool,.int,.int,.int,.int,.int,.int,.int,.int,.int,.int,.int,.int,.int]) false]++gS 3 [.mv 20,.mv 21]
def ln3 : List ah:=gS 5 [.mv (ci 0)]
def lt3 : List ah:=gS 22 [.aj 0 1,.load 1 false 22,.len false 23,.mv (ci 0)]
def ll3 : List ah:=gS 26 [.bin .lss 25 24]
def ld3 : List ah:=gS 27 [.aQ 4 23 25,.load 4 true 27]++gS 7 [.alloc 50 (.agg #[oz,(.slice none 0 0),(.slice none 0 0),oz])]++[⟨none,.store 4 7 28,none⟩]
def lc3 : List ah:=gS 29 [.aj 1 7,.load 1 false 29,.aj 2 7,.load 1 false 31,.aj 0 7,.load 1 false 33,.aj 3 7,.load 1 false 35,.aU 3 1 2 oz [(0,34),(1,36)],.aU 48 1 3 (.slice none 0 0) [(0,30),(1,32),(2,37)],.call 33 [38]]++gS 8 [.mv 39]
def lm3 : List ah:=gS 40 [.mv 3,.mv 8,.lI .str false false (.bool false) 40 41,.mv 42]++gQ 43 false 44 [.load 2 true 1,.load 4 true 7,.call 39 [44,45],.un .not 46]++gS 48 [.pick 43 (cB true) 47]
def tj2 : List ah:=gS 2 [.mv (cB false)]
def tz2 : List ah:=gS 49 [.mv 3,.mv 8]++[⟨none,.lq .str false 49 50 (cB true),none⟩]
def tq2 : List ah:=gS 51 [.aj 2 7,.load 1 false 51,.len false 52,.bin .eql 53 (ci 0)]
def ru2 : List ah:=gS 55 [.aj 3 7,.load 1 false 55,.mv 5,.bin .neq 56 57,.mv 58]++gQ 59 false 60 [.mv 4,.aj 1 1,.load 1 false 61,.mv 5,.aQ 16 62 63,.load 16 true 64,.lI (.agg [.bool,.bool,.bool,.int,.int,.int,.int,.int,.int,.int,.int,.int,.int,.int,.int,.int]) false false (.bool false) 60 65]++gS 67 [.pick 59 (cB true) 66]
def ro2 : List ah:=gS 2 [.mv (cB false)]
def ri2 : List ah:=gS 68 [.mv 4,.aj 1 1,.load 1 false 69,.mv 5,.aQ 16 70 71,.load 16 true 72]++[⟨none,.lq (.agg [.bool,.bool,.bool,.int,.int,.int,.int,.int,.int,.int,.int,.int,.int,.int,.int,.int]) false 68 73 (cB true),none⟩]
def ra2 : List ah:=gS 74 [.mv 5,.bin .add 74 (ci 1)]++gS 5 [.mv 75]
def rr2 : List ah:=gS 76 [.bin .add 25 (ci 1)]++gS 25 [.mv 76]
def tx2 : DE:=.seq (.reg ll3) (.seq (.cond 26 (.skip) (.exit 0)) (.join (.block 1 (.seq (.reg ld3) (.seq (.reg lc3) (.seq (.join (.reg lm3) (.cond 48 (.seq (.reg tj2) (.ret)) (.skip))) (.seq (.reg tz2) (.seq (.reg tq2) (.cond 54 (.seq (.join (.reg ru2) (.cond 67 (.seq (.reg ro2) (.ret)) (.skip))) (.seq (.reg ri2) (.reg ra2))) (.skip)))))))) (.reg rr2)))
def rn2 : List ah:=gS 9 [.alloc 3 oz]++[⟨none,.store 1 9 (ci 0),none⟩]
def rs2 : List ah:=gS 77 [.aj 0 1,.load 1 false 77,.jE (.func 41) [] [9],.call 40 [78,(ci 0),79]]
def rt2 : List ah:=gS 81 [.load 1 false 9,.aj 0 1,.load 1 false 82,.len false 83,.bin .eql 81 84,.mv 85]++gQ 86 true 87 [.mv 5,.aj 1 1,.load 1 false 88,.len false 89,.bin .eql 87 90]++gS 92 [.pick 86 91 (cB false)]++gS 2 [.mv 92]
def c15 : fJ:=⟨93,.seq (.reg li3) (.seq (.join (.reg le3) (.cond 19 (.seq (.reg la3) (.ret)) (.skip))) (.seq (.reg lr3) (.seq (.reg ln3) (.join (.seq (.reg lt3) (.block 0 (.loop tx2))) (.seq (.reg rn2) (.join (.reg rs2) (.seq (.reg rt2) (.ret)))))))),[.tmp 2]⟩
theorem tv2 : fD Tryz.prog 15=some c15.er:=by kernel_rfl
set_option maxHeartbeats 4000000 in
theorem ot0 {P:Program}(hP:P=Tryz.prog)(t_:Table)(r:Bool)(h:zQ t_=some r):Fn1 P 15 [BR t_] (vB r):=by
 refine .mJ (hP▸tv2) fun K hK=>?_;unfold zQ at h;cbv;refine .g h (fun (v1:Bool)=>[.top,.ptr 0 0]++rp 17 .top++[ob v1]++rp 73 .top) (fun v1=>[.cells [dq bC t_.Nodes,dq bJ t_.Leaves] 28]) (fun y hm Kn1 aC=>?_) fun t h=>?_
 ·have h:=hm;clear hm;cbv;refine aG h ?_ ?_<;>intro h
  ·cbv;obtain rfl:=oj h;exact aC _ _ _ rfl (.nz (.aB [0] mx))
  ·cbv;obtain rfl:=oj h;exact aC _ _ _ rfl (.nz (.aB [0] mx))
 obtain⟨v1,rfl⟩:=ez t;cbv;refine aG h ?_ ?_<;>intro h
 ·cbv;obtain rfl:=oj h;exact hK _ _ aJ
 ·cbv;refine .ga h (fun (wK:Int)=>[.top,.ptr 0 0]++rp 3 .top++[oi wK]++rp 87 .top) (fun wK=>[.cells [dq bC t_.Nodes,dq bJ t_.Leaves] 28]) (fun y hm hr1 Kn1 aC=>?_) fun t h=>?_
  ·have h:=hm;clear hm;cbv;refine .g h (fun ((nP,fE,kT,v6):(List (ByteArray×Bool))×(List (Decision×Bool))×Int×Int)=>[.top,.ptr 0 0,.top,.hd 1,.hd 2,oi kT]++rp 17 .top++[dq bC t_.Nodes,oi (io.len (W bC t_.Nodes)),oi v6]++rp 67 .top) (fun (nP,fE,kT,v6)=>[.cells [dq bC t_.Nodes,dq bJ t_.Leaves] 28,.mp .str false (WM Value.string eB nP),.mp (.agg [.bool,.bool,.bool,.int,.int,.int,.int,.int,.int,.int,.int,.int,.int,.int,.int,.int]) false (WM KQ eB fE)]) (.nz (.aB [0,1,2] ?_)) fun s x h hr2 Kn2 bg=>?_
   ·exact mx
   unfold HY at h;obtain⟨nP,fE,kT,v6⟩:=s;cbv;refine aG h ?_ ?_<;>intro h
   ·cbv;refine .ga h (fun ((uG,jJ,yA):(List (ByteArray×Bool))×(List (Decision×Bool))×Int)=>[.top,.ptr 0 0,.top,.hd 1,.hd 2,oi yA]++rp 17 .top++[dq bC t_.Nodes,oi (io.len (W bC t_.Nodes)),oi v6]++rp 67 .top) (fun (uG,jJ,yA)=>[.cells [dq bC t_.Nodes,dq bJ t_.Leaves] 28,.mp .str false (WM Value.string eB uG),.mp (.agg [.bool,.bool,.bool,.int,.int,.int,.int,.int,.int,.int,.int,.int,.int,.int,.int,.int]) false (WM KQ eB jJ)]) (fun y hm hr3 Kn3 aP=>?_) fun t h=>?_
    ·have h:=hm;clear hm;cbv;refine .g h (fun _=>rfl) fun x10 h=>?_;cbv;refine .g (e:=aH) h (gU aJ (gU aJ (jP _))) fun JO h=>?_;cbv;refine .g (e:=xZ) h (gU aJ (gU aJ (gU aJ (jP _)))) fun l12 h=>?_;cbv;refine .gl [] h (fun v hv=>wi1 hP _ v hv) aJ rfl fun BL h=>?_;cbv;refine .g h (fun (v14:Bool)=>[.top,.ptr 0 0,.top,.hd 1,.hd 2,oi kT,.top,.ptr 3 0,.d (.val (.string BL))]++rp 14 .top++[dq bC t_.Nodes,oi (io.len (W bC t_.Nodes)),oi v6]++rp 22 .top++[ob v14]++rp 44 .top) (fun v14=>[.cells [dq bC t_.Nodes,dq bJ t_.Leaves] 28,.mp .str false (WM Value.string eB nP),.mp (.agg [.bool,.bool,.bool,.int,.int,.int,.int,.int,.int,.int,.int,.int,.int,.int,.int,.int]) false (WM KQ eB fE),.cells [oi x10.Attr,dq aH x10.aI,dq aH x10.Kids,oi x10.Leaf] 50]) (fun y hm ku aY=>?_) fun t h=>?_
     ·have h:=hm;clear hm;cbv;refine .gs (e:=eB) h (by first|rfl|exact GK _ _) (fun h=>h) fun Wy h=>?_;cbv;refine aG h ?_ ?_<;>intro h
      ·cbv;obtain rfl:=oj h;exact aY _ _ _ rfl (.nz (.aB [0,1,2,3] mx))
      ·cbv;refine .g h (fun v hv=>el0 hP _ _ v hv) aJ rfl (fun _=>rfl) fun v16 h=>?_;cbv;obtain rfl:=oj h;exact aY _ _ _ rfl (.nz (.aB [0,1,2,3] mx))
     obtain⟨v14,rfl⟩:=ez t;cbv;refine aG h ?_ ?_<;>intro h
     ·cbv;obtain rfl:=oj h;obtain rfl:=hr3 _ rfl;obtain rfl:=hr2 _ rfl;obtain rfl:=hr1 _ rfl;exact hK _ _ aJ
     ·cbv;refine .gs (e:=eB) h (by first|rfl|exact GK _ _) aJ fun m17 h=>?_;cbv;refine aG h ?_ ?_<;>intro h
      ·cbv;refine .g h (fun (v18:Bool)=>[.top,.ptr 0 0,.top,.hd 1,.hd 2,oi kT]++rp 17 .top++[dq bC t_.Nodes,oi (io.len (W bC t_.Nodes)),oi v6]++rp 41 .top++[ob v18]++rp 25 .top) (fun v18=>[.cells [dq bC t_.Nodes,dq bJ t_.Leaves] 28,.mp .str false (WM Value.string eB m17),.mp (.agg [.bool,.bool,.bool,.int,.int,.int,.int,.int,.int,.int,.int,.int,.int,.int,.int,.int]) false (WM KQ eB fE)]) (fun y hm ku aY=>?_) fun t h=>?_
       ·have h:=hm;clear hm;cbv;refine aG h ?_ ?_<;>intro h
        ·cbv;obtain rfl:=oj h;exact aY _ _ _ rfl (.nz (.aB [0,1,2] mx))
        ·cbv;refine .g h (fun _=>rfl) fun x19 h=>?_;cbv;refine .g cj0 (k:=x19) (e:=eB) h (by first|rfl|exact GK _ _) (fun h=>h) fun y20 h=>?_;cbv;obtain rfl:=oj h;exact aY _ _ _ rfl (.nz (.aB [0,1,2] mx))
       obtain⟨v18,rfl⟩:=ez t;cbv;refine aG h ?_ ?_<;>intro h
       ·cbv;obtain rfl:=oj h;obtain rfl:=hr3 _ rfl;obtain rfl:=hr2 _ rfl;obtain rfl:=hr1 _ rfl;exact hK _ _ aJ
       ·cbv;refine .g h (fun _=>rfl) fun x21 h=>?_;cbv;refine .gk cj0 (k:=x21) (e:=eB) h (by first|rfl|exact GK _ _) aJ fun m22 h=>?_;cbv;obtain rfl:=oj h;exact aP _ _ _ rfl (.nz (.aB [0,1,2] mx))
      ·cbv;obtain rfl:=oj h;exact aP _ _ _ rfl (.nz (.aB [0,1,2] mx))
    obtain⟨uG,jJ,yA⟩:=t;cbv;obtain rfl:=oj h;exact bg _ _ _ rfl (.nz (.aB [0,1,2] mx))
   ·cbv;obtain rfl:=oj h;obtain rfl:=hr2 _ rfl;exact aC _ _ _ rfl (.nz (.aB [0] mx))
  obtain⟨wK,rfl⟩:=ez t;cbv;refine .g h (fun (uz:Int)=>[.top,.ptr 0 0]++rp 3 .top++[oi wK]++rp 3 .top++[.ptr 1 0]++rp 83 .top) (fun uz=>[.cells [dq bC t_.Nodes,dq bJ t_.Leaves] 28,.cells [oi uz] 3]) (fun y hm Kn1 aC=>?_) fun t h=>?_
  ·have h:=hm;clear hm;cbv;refine .inl (hP▸au2) ?_;cbv;obtain⟨r24,hm,h⟩:=Option.bind_eq_some_iff.1 h;refine .DL [5,4,3,1,2,6] (wg1 hP t_.Nodes 11 _ _ _ _ hm) mx fun sv0 dG hq _=>?_;obtain⟨rfl,rfl⟩:=hq;clear hm;cbv;obtain rfl:=oj h;exact aC _ _ _ rfl (.nz (.aB [0,1] mx))
  obtain⟨uz,rfl⟩:=ez t;cbv;refine aG h ?_ ?_<;>intro h
  ·cbv;obtain rfl:=oj h;exact hK _ _ aJ
  ·cbv;obtain rfl:=oj h;exact hK _ _ aJ
def fb3 : List ah:=gS 4 [.mv (ci 0)]
def fy3 : List ah:=gS 6 [.mv 0,.len false 6,.mv (ci 0)]
def fw3 : List ah:=gS 9 [.bin .lss 8 7]
def fv3 : List ah:=gS 10 [.mv 8]++gS 5 [.mv 10]
def fk3 : List ah:=gS 11 [.mv 1,.mv 0,.mv 5,.aQ 1 12 13,.load 1 false 14,.fZ 11 [15]]
def fx3 : List ah:=gS 17 [.mv 5]++gS 4 [.mv 17]
def fj3 : List ah:=gS 18 [.bin .add 8 (ci 1)]++gS 8 [.mv 18]
def fg3 : DE:=.seq (.reg fw3) (.seq (.cond 9 (.skip) (.exit 0)) (.seq (.block 1 (.seq (.reg fv3) (.join (.reg fk3) (.cond 16 (.seq (.reg fx3) (.ret)) (.skip))))) (.reg fj3)))
def fq3 : List ah:=gS 4 [.mv (ci (-1))]
def c43 : fJ:=⟨19,.seq (.reg fb3) (.join (.seq (.reg fy3) (.block 0 (.loop fg3))) (.seq (.reg fq3) (.ret))),[.tmp 4]⟩
theorem ah2 : fD Tryz.prog 43=some c43.er:=by kernel_rfl
def zh3 : List ah:=gS 3 [.mv (cB false)]
def zp3 : List ah:=gS 4 [.mv 0,.load 1 false 1,.bin .gtr 4 5]++gS 3 [.mv 6]
def c86 : fJ:=⟨7,.seq (.reg zh3) (.seq (.reg zp3) (.ret)),[.tmp 3]⟩
theorem fw2 : fD Tryz.prog 86=some c86.er:=by kernel_rfl
def ug3 : List ah:=gS 5 [.box 3 2,.mv (ci 0)]
def ub3 : List ah:=gS 9 [.mv 0,.aO 9,.aj 1 10,.aj 0 11,.load 1 false 12,.mv 1,.aQ 4 13 14,.load 4 true 15]++gS 7 [.alloc 50 (.agg #[oz,(.slice none 0 0),(.slice none 0 0),oz])]++[⟨none,.store 4 7 16,none⟩]
def uy3 : List ah:=gS 17 [.aj 1 7,.load 1 false 17,.jE (.func 86) [] [5],.call 43 [18,19]]++gS 8 [.mv 20]
def uw3 : List ah:=gS 21 [.mv 8,.bin .lss 21 (ci 0)]
def uv3 : List ah:=gS 23 [.aj 1 7,.load 1 false 23,.len false 24]++gS 8 [.mv 25]
def uk3 : List ah:=gS 26 [.aj 2 7,.load 1 false 26,.mv 8,.aQ 1 27 28,.load 1 false 29]++gS 6 [.mv 30]
def c55 : fJ:=⟨31,.seq (.reg ug3) (.seq (.reg ub3) (.join (.reg uy3) (.join (.seq (.reg uw3) (.cond 22 (.reg uv3) (.skip))) (.seq (.reg uk3) (.ret))))),[.tmp 6]⟩
theorem sb2 : fD Tryz.prog 55=some c55.er:=by kernel_rfl
set_option maxHeartbeats 8000000 in
theorem uw2 {P:Program}(hP:P=Tryz.prog)(rules:(List Rule))(nodes:(List Node))(leaves:(List Decision))(limits:(aF Range))(node:Int)(v:Int)(facts:(aF Int))(equal:(List (ByteArray×Bool)))(r:Int)(h:Qc rules nodes leaves limits node v facts equal=some r):dX P 55 [.cells ([dq aZ rules,dq bC nodes,dq bJ leaves]++cR limits++(ca facts++[.hd 1])) 63,.mp .str false (WM Value.string eB equal)] [.ptr 0 0,oi node,oi v] (fun sv own'=>sv=oi r/\own'=[.cells ([dq aZ rules,dq bC nodes,dq bJ leaves]++cR limits++(ca facts++[.hd 1])) 63,.mp .str false (WM Value.string eB equal)]):=by
 refine .walkT [0,1] 2 rfl rfl (by decide) (by decide) (hP▸sb2) fun K hK=>?_;unfold Qc at h;cbv;refine .g h (fun _=>rfl) fun x1 h=>?_;cbv;refine .g h (fun (k2:Int)=>rp 7 .top++[.ptr 2 0,oi k2]++rp 22 .top) (fun k2=>[.cells ([dq aZ rules,dq bC nodes,dq bJ leaves]++cR limits++(ca facts++[.hd 1])) 63,.mp .str false (WM Value.string eB equal),.cells [oi x1.Attr,dq aH x1.aI,dq aH x1.Kids,oi x1.Leaf] 50]) (fun y hm Kn1 aC=>?_) fun t h=>?_
 ·have h:=hm;clear hm;cbv;refine .inl (hP▸ah2) ?_;cbv;refine .ga h (fun (_:Unit)=>rp 19 .top) (fun _=>[.cells ([dq aZ rules,dq bC nodes,dq bJ leaves]++cR limits++(ca facts++[.hd 1])) 63,.mp .str false (WM Value.string eB equal),.cells [oi v] 3,.cells [oi x1.Attr,dq aH x1.aI,dq aH x1.Kids,oi x1.Leaf] 50]) (fun y hm hr2 Kn2 bg=>?_) fun t h=>?_
  ·have h:=hm;clear hm;cbv;refine .g h (fun (v3:Int)=>[dq aH x1.aI,.clo (.func 86) [] [.ptr 2 0]]++rp 5 .top++[oi (io.len (W aH x1.aI)),oi v3]++rp 10 .top) (fun v3=>[.cells ([dq aZ rules,dq bC nodes,dq bJ leaves]++cR limits++(ca facts++[.hd 1])) 63,.mp .str false (WM Value.string eB equal),.cells [oi v] 3,.cells [oi x1.Attr,dq aH x1.aI,dq aH x1.Kids,oi x1.Leaf] 50]) (.nz (.aB [0,1,2,3] ?_)) fun s x h hr3 Kn3 aP=>?_
   ·exact mx
   unfold Ph at h;obtain⟨v3,rfl⟩:=ez s;cbv;refine aG h ?_ ?_<;>intro h
   ·cbv;refine .g h (fun (v4:Bool)=>[dq aH x1.aI,.clo (.func 86) [] [.ptr 2 0]]++rp 3 .top++[oi v3,.top,oi (io.len (W aH x1.aI)),oi v3]++rp 7 .top++[ob v4,.top,.top]) (fun v4=>[.cells ([dq aZ rules,dq bC nodes,dq bJ leaves]++cR limits++(ca facts++[.hd 1])) 63,.mp .str false (WM Value.string eB equal),.cells [oi v] 3,.cells [oi x1.Attr,dq aH x1.aI,dq aH x1.Kids,oi x1.Leaf] 50]) (fun y hm ku aY=>?_) fun t h=>?_
    ·have h:=hm;clear hm;cbv;refine .g h (fun _=>rfl) fun x5 h=>?_;cbv;refine .inl (hP▸fw2) ?_;cbv;obtain rfl:=oj h;exact aY _ _ _ rfl (.nz (.aB [0,1,2,3] mx))
    obtain⟨v4,rfl⟩:=ez t;cbv;refine aG h ?_ ?_<;>intro h
    ·cbv;obtain rfl:=oj h;obtain rfl:=hr3 _ rfl;obtain rfl:=hr2 _ rfl;exact aC _ _ _ rfl (.nz (.aB [0,1,3] mx))
    ·cbv;obtain rfl:=oj h;exact aP _ _ _ rfl (.nz (.aB [0,1,2,3] mx))
   ·cbv;obtain rfl:=oj h;obtain rfl:=hr3 _ rfl;exact bg _ _ _ rfl (.nz (.aB [0,1,2,3] mx))
  cbv;obtain rfl:=oj h;exact aC _ _ _ rfl (.nz (.aB [0,1,3] mx))
 obtain⟨k2,rfl⟩:=ez t;cbv;refine .g h (fun (k6:Int)=>rp 7 .top++[.ptr 2 0,oi k6]++rp 22 .top) (fun k6=>[.cells ([dq aZ rules,dq bC nodes,dq bJ leaves]++cR limits++(ca facts++[.hd 1])) 63,.mp .str false (WM Value.string eB equal),.cells [oi x1.Attr,dq aH x1.aI,dq aH x1.Kids,oi x1.Leaf] 50]) (fun y hm Kn1 aC=>?_) fun t h=>?_
 ·have h:=hm;clear hm;cbv;refine aG h ?_ ?_<;>intro h
  ·cbv;obtain rfl:=oj h;exact aC _ _ _ rfl (.nz (.aB [0,1,2] mx))
  ·cbv;obtain rfl:=oj h;exact aC _ _ _ rfl (.nz (.aB [0,1,2] mx))
 obtain⟨k6,rfl⟩:=ez t;cbv;refine .g h (fun _=>rfl) fun x7 h=>?_;cbv;obtain rfl:=oj h;exact hK _ _ mx
def zm3 : List ah:=gS 5 [.mv 0,.load 1 false 1,.load 1 false 2,.aO 6,.aj 3 8,.eH 10 2 9 7,.aj 0 10,.load 1 false 11,.bin .gtr 5 12,.mv 13]++gQ 14 true 15 [.mv 0,.load 1 false 1,.load 1 false 2,.aO 16,.aj 3 18,.eH 10 2 19 17,.aj 1 20,.load 1 false 21,.bin .leq 15 22]++gS 24 [.pick 14 23 (cB false)]
def zf3 : List ah:=gS 25 [.load 1 false 3,.mv 0,.aU 3 1 1 oz [(0,26)],.app 3 1 8 oz 25 27]++[⟨none,.store 1 3 28,none⟩]
def c85 : fJ:=⟨29,.join (.par true true true 18 zm3) (.cond 24 (.reg zf3) (.skip)),[]⟩
theorem ZA : fD Tryz.prog 85=some c85.er:=by kernel_rfl
def uh3 : List ah:=gS 6 [.mv (cB false)]
def up3 : List ah:=gS 7 [.mv 0,.aO 7,.aj 1 8,.aj 0 9,.load 1 false 10,.mv 1,.aQ 4 11 12,.aj 2 13,.load 1 false 14,.len false 15,.bin .gtr 16 (ci 0),.mv 17]++gQ 18 true 19 [.mv 0,.aO 19,.aj 1 20,.aj 0 21,.load 1 false 22,.mv 1,.aQ 4 23 24,.aj 0 25,.load 1 false 26,.mv 2,.bin .eql 27 28]++gS 30 [.pick 18 29 (cB false)]++gS 6 [.mv 30]
def c54 : fJ:=⟨31,.seq (.reg uh3) (.seq (.reg up3) (.ret)),[.tmp 6]⟩
theorem yn2 : fD Tryz.prog 54=some c54.er:=by kernel_rfl
def ua3 : List ah:=gS 4 [.box 60 0,.box 3 1]++gS 8 [.mv cn]
def ur3 : List ah:=gS 16 [.load 1 false 4,.load 1 false 5,.aO 16,.aj 3 18,.eH 10 2 19 17,.aj 0 20,.load 1 false 21,.aU 3 1 1 oz [(0,22)]]++gS 9 [.alloc 48 (.slice none 0 0)]++[⟨none,.store 1 9 23,none⟩]
def un3 : List ah:=gS 24 [.jE (.func 85) [] [4,5,9]]++gS 10 [.mv 24]
def us3 : List ah:=gS 25 [.mv 2,.len false 25,.mv (ci 0)]
def ut3 : List ah:=gS 28 [.bin .lss 27 26]
def ul3 : List ah:=gS 29 [.aQ 2 25 27,.load 2 true 29]++gS 12 [.alloc 66 (.agg #[oz,oz])]++[⟨none,.store 2 12 30,none⟩]
def ud3 : List ah:=gS 31 [.load 1 false 4,.aO 31,.aj 0 32,.aj 0 33,.load 1 false 34,.aj 0 12,.load 1 false 36,.aQ 8 35 37,.aj 2 38,.load 1 false 39,.aj 1 12,.load 1 false 41,.load 1 false 5,.aQ 20 40 42,.eH 10 2 44 43,.load 2 true 45]++gS 13 [.alloc 52 (.agg #[oz,oz])]++[⟨none,.store 2 13 46,none⟩]
def uc3 : List ah:=gS 47 [.mv 10,.aj 0 13,.load 1 false 48,.fZ 47 [49]]
def um3 : List ah:=gS 51 [.mv 10,.aj 1 13,.load 1 false 52,.bin .add 53 (ci 1),.fZ 51 [54]]
def uf3 : List ah:=gS 56 [.bin .add 27 (ci 1)]++gS 27 [.mv 56]
def so2 : DE:=.seq (.reg ut3) (.seq (.cond 28 (.skip) (.exit 0)) (.join (.block 1 (.seq (.reg ul3) (.join (.par true true true 17 ud3) (.join (.reg uc3) (.reg um3))))) (.reg uf3)))
def se2 : List ah:=gS 57 [.load 1 false 4,.mv 3,.load 1 false 5,.call 54 [57,58,59]]
def sa2 : List ah:=gS 61 [.load 1 false 4,.aO 61,.aj 1 62,.aj 0 63,.load 1 false 64,.mv 3,.aQ 4 65 66,.aj 1 67,.load 1 false 68,.len false 69,.mv (ci 0)]
def sr2 : List ah:=gS 72 [.bin .lss 71 70]
def sn2 : List ah:=gS 73 [.aQ 1 69 71,.load 1 false 73]++gS 15 [.mv 74]
def sc2 : List ah:=gS 75 [.mv 10,.mv 15,.fZ 75 [76]]
def sm2 : List ah:=gS 78 [.bin .add 71 (ci 1)]++gS 71 [.mv 78]
def si2 : DE:=.seq (.reg sr2) (.seq (.cond 72 (.skip) (.exit 2)) (.join (.block 3 (.seq (.reg sn2) (.reg sc2))) (.reg sm2)))
def sf2 : List ah:=gS 79 [.load 1 false 9,.call 34 [79]]
def sh2 : List ah:=gS 81 [.load 1 false 9,.call 35 [81]]++gS 8 [.mv 82]
def c53 : fJ:=⟨83,.seq (.reg ua3) (.join (.hyb true true 9 ur3) (.seq (.reg un3) (.join (.seq (.reg us3) (.block 0 (.loop so2))) (.join (.join (.reg se2) (.cond 60 (.seq (.reg sa2) (.block 2 (.loop si2))) (.skip))) (.join (.reg sf2) (.seq (.reg sh2) (.ret))))))),[.tmp 8]⟩
theorem su2 : fD Tryz.prog 53=some c53.er:=by kernel_rfl
set_option maxHeartbeats 8000000 in
theorem jw2 {P:Program}(hP:P=Tryz.prog)(rules:(List Rule))(nodes:(List Node))(leaves:(List Decision))(limits:(aF Range))(attr:Int)(zones:(List Live))(node:Int)(facts:(aF Int))(equal:(List (ByteArray×Bool)))(r:(List Int))(h:Rw rules nodes leaves limits attr zones node facts equal=some r):dX P 53 [.cells ([dq aZ rules,dq bC nodes,dq bJ leaves]++cR limits++(ca facts++[.hd 1])) 63,.mp .str false (WM Value.string eB equal)] [.ptr 0 0,oi attr,dq jX zones,oi node] (fun sv own'=>sv=dq aH r/\own'=[.cells ([dq aZ rules,dq bC nodes,dq bJ leaves]++cR limits++(ca facts++[.hd 1])) 63,.mp .str false (WM Value.string eB equal)]):=by
 refine .walkT [0,1] 2 rfl rfl (by decide) (by decide) (hP▸su2) fun K hK=>?_;unfold Rw at h;cbv;refine .g h (fun (out1:(List Int))=>[.top,.top,dq jX zones,oi node,.ptr 2 0,.ptr 3 0]++rp 3 .top++[.ptr 4 0]++rp 73 .top) (fun out1=>[.cells ([dq aZ rules,dq bC nodes,dq bJ leaves]++cR limits++(ca facts++[.hd 1])) 63,.mp .str false (WM Value.string eB equal),.cells [.ptr 0 0] 60,.cells [oi attr] 3,.cells [.hd 5] 48,rC out1]) (fun y hm Kn1 aC=>?_) fun t h=>?_
 ·have h:=hm;clear hm;cbv
  refine .c10 h ?_ ?_ ?_ ?_ ?_ ?_ ?_ ?_ ?_ ?_<;>(
   intro hni2 h;cbv;refine .g (e:=aH) h (gU aJ (jP _)) fun l3 h=>?_;cbv;obtain rfl:=oj h;exact aC _ _ _ rfl (.nz (.aB [0,1,2,3,5,4] mx))
   )
 obtain⟨out1,rfl⟩:=ez t;cbv;refine .g h (fun (qm:(List Int))=>rp 3 .top++[oi node,.ptr 2 0,.ptr 3 0]++rp 3 .top++[.ptr 4 0,.clo (.func 85) [] [.ptr 2 0,.ptr 3 0,.ptr 4 0]]++rp 72 .top) (fun qm=>[.cells ([dq aZ rules,dq bC nodes,dq bJ leaves]++cR limits++(ca facts++[.hd 1])) 63,.mp .str false (WM Value.string eB equal),.cells [.ptr 0 0] 60,.cells [oi attr] 3,.cells [.hd 5] 48,rC qm]) (fun y hm Kn1 aC=>?_) fun t h=>?_
 ·have h:=hm;clear hm;cbv;refine .g h (fun ((nM,v6):(List Int)×Int)=>rp 3 .top++[oi node,.ptr 2 0,.ptr 3 0]++rp 3 .top++[.ptr 4 0,.clo (.func 85) [] [.ptr 2 0,.ptr 3 0,.ptr 4 0]]++rp 14 .top++[dq jX zones,oi (io.len (W jX zones)),oi v6]++rp 55 .top) (fun (nM,v6)=>[.cells ([dq aZ rules,dq bC nodes,dq bJ leaves]++cR limits++(ca facts++[.hd 1])) 63,.mp .str false (WM Value.string eB equal),.cells [.ptr 0 0] 60,.cells [oi attr] 3,.cells [.hd 5] 48,rC nM]) (.nz (.aB [0,1,2,3,4,5] ?_)) fun s x h hr2 Kn2 bg=>?_
  ·exact mx
  unfold O5 at h;obtain⟨nM,v6⟩:=s;cbv;refine aG h ?_ ?_<;>intro h
  ·cbv;refine .g h (fun (En:(List Int))=>rp 3 .top++[oi node,.ptr 2 0,.ptr 3 0]++rp 3 .top++[.ptr 4 0,.clo (.func 85) [] [.ptr 2 0,.ptr 3 0,.ptr 4 0]]++rp 14 .top++[dq jX zones,oi (io.len (W jX zones)),oi v6]++rp 55 .top) (fun En=>[.cells ([dq aZ rules,dq bC nodes,dq bJ leaves]++cR limits++(ca facts++[.hd 1])) 63,.mp .str false (WM Value.string eB equal),.cells [.ptr 0 0] 60,.cells [oi attr] 3,.cells [.hd 5] 48,rC En]) (fun y hm Kn3 aP=>?_) fun t h=>?_
   ·have h:=hm;clear hm;cbv;refine .g h (fun _=>rfl) fun x8 h=>?_;cbv;refine .g h (fun ((zi,lY):Int×Int)=>rp 3 .top++[oi node,.ptr 2 0,.ptr 3 0]++rp 3 .top++[.ptr 4 0,.clo (.func 85) [] [.ptr 2 0,.ptr 3 0,.ptr 4 0],.top,.top,.ptr 6 0]++rp 11 .top++[dq jX zones,oi (io.len (W jX zones)),oi v6]++rp 55 .top) (fun (zi,lY)=>[.cells ([dq aZ rules,dq bC nodes,dq bJ leaves]++cR limits++(ca facts++[.hd 1])) 63,.mp .str false (WM Value.string eB equal),.cells [.ptr 0 0] 60,.cells [oi attr] 3,.cells [.hd 5] 48,rC nM,.cells [oi zi,oi lY] 52]) (fun y hm ku aY=>?_) fun t h=>?_
    ·have h:=hm;clear hm;cbv;refine .g h (fun _=>rfl) fun x11 h=>?_;cbv;refine .g h (fun _=>rfl) fun x12 h=>?_;cbv
     refine .c10 h ?_ ?_ ?_ ?_ ?_ ?_ ?_ ?_ ?_ ?_<;>(
      intro Uw h;cbv;obtain rfl:=oj h;exact aY _ _ _ rfl (.nz (.aB [0,1,2,3,4,5,7] mx))
      )
    obtain⟨zi,lY⟩:=t;cbv;refine .g h (fun (nH:(List Int))=>rp 3 .top++[oi node,.ptr 2 0,.ptr 3 0]++rp 3 .top++[.ptr 4 0,.clo (.func 85) [] [.ptr 2 0,.ptr 3 0,.ptr 4 0],.top,.top,.ptr 6 0]++rp 11 .top++[dq jX zones,oi (io.len (W jX zones)),oi v6]++rp 55 .top) (fun nH=>[.cells ([dq aZ rules,dq bC nodes,dq bJ leaves]++cR limits++(ca facts++[.hd 1])) 63,.mp .str false (WM Value.string eB equal),.cells [.ptr 0 0] 60,.cells [oi attr] 3,.cells [.hd 5] 48,rC nH,.cells [oi zi,oi lY] 52]) (fun y hm ku aY=>?_) fun t h=>?_
    ·have h:=hm;clear hm;cbv;refine .inl (hP▸ZA) ?_;cbv;refine .g h (fun (v15:Bool)=>[oi zi,.top,.top,.ptr 4 0]++rp 20 .top++[ob v15]++rp 4 .top) (fun v15=>[.cells ([dq aZ rules,dq bC nodes,dq bJ leaves]++cR limits++(ca facts++[.hd 1])) 63,.mp .str false (WM Value.string eB equal),.cells [.ptr 0 0] 60,.cells [oi attr] 3,.cells [.hd 5] 48,rC nM,.cells [oi zi,oi lY] 52]) (fun y hm Hr jH=>?_) fun t h=>?_
     ·have h:=hm;clear hm;cbv
      refine .c10 h ?_ ?_ ?_ ?_ ?_ ?_ ?_ ?_ ?_ ?_<;>(
       intro MJ h;cbv;refine aG h ?_ ?_<;>intro h
       ·cbv;refine .at _ MJ (by decide) ?_;cbv;obtain rfl:=oj h;exact jH _ _ _ rfl (.nz (.aB [0,1,2,3,4,5,6] mx))
       ·cbv;obtain rfl:=oj h;exact jH _ _ _ rfl (.nz (.aB [0,1,2,3,4,5,6] mx))
       )
     obtain⟨v15,rfl⟩:=ez t;cbv;refine aG h ?_ ?_<;>intro h
     ·cbv;refine .g (e:=aH) h (gU aJ (jP _)) fun l17 h=>?_;cbv;refine .g h rfl (fun _=>rfl) (by decide) fun JM h=>?_;cbv;obtain rfl:=oj h;exact aY _ _ _ rfl (.nz (.aB [0,1,2,3,4,8,6] mx))
     ·cbv;obtain rfl:=oj h;exact aY _ _ _ rfl (.nz (.aB [0,1,2,3,4,5,6] mx))
    obtain⟨nH,rfl⟩:=ez t;cbv;refine .inl (hP▸ZA) ?_;cbv;refine .g h (fun (v19:Bool)=>[oi (io.ar .add .i64 lY 1),.top,.top,.ptr 4 0]++rp 20 .top++[ob v19]++rp 4 .top) (fun v19=>[.cells ([dq aZ rules,dq bC nodes,dq bJ leaves]++cR limits++(ca facts++[.hd 1])) 63,.mp .str false (WM Value.string eB equal),.cells [.ptr 0 0] 60,.cells [oi attr] 3,.cells [.hd 5] 48,rC nH,.cells [oi zi,oi lY] 52]) (fun y hm ku aY=>?_) fun t h=>?_
    ·have h:=hm;clear hm;cbv
     refine .c10 h ?_ ?_ ?_ ?_ ?_ ?_ ?_ ?_ ?_ ?_<;>(
      intro Uu h;cbv;refine aG h ?_ ?_<;>intro h
      ·cbv;refine .at _ Uu (by decide) ?_;cbv;obtain rfl:=oj h;exact aY _ _ _ rfl (.nz (.aB [0,1,2,3,4,5,6] mx))
      ·cbv;obtain rfl:=oj h;exact aY _ _ _ rfl (.nz (.aB [0,1,2,3,4,5,6] mx))
      )
    obtain⟨v19,rfl⟩:=ez t;cbv;refine aG h ?_ ?_<;>intro h
    ·cbv;refine .g (e:=aH) h (gU aJ (jP _)) fun JL h=>?_;cbv;refine .g h rfl (fun _=>rfl) (by decide) fun l22 h=>?_;cbv;obtain rfl:=oj h;exact aP _ _ _ rfl (.nz (.aB [0,1,2,3,4,8] mx))
    ·cbv;obtain rfl:=oj h;exact aP _ _ _ rfl (.nz (.aB [0,1,2,3,4,5] mx))
   obtain⟨En,rfl⟩:=ez t;cbv;obtain rfl:=oj h;exact bg _ _ _ rfl (.nz (.aB [0,1,2,3,4,5] mx))
  ·cbv;obtain rfl:=oj h;obtain rfl:=hr2 _ rfl;exact aC _ _ _ rfl (.nz (.aB [0,1,2,3,4,5] mx))
 obtain⟨qm,rfl⟩:=ez t;cbv;refine .g h (fun (yj:(List Int))=>rp 9 .top++[.ptr 2 0]++rp 73 .top) (fun yj=>[.cells ([dq aZ rules,dq bC nodes,dq bJ leaves]++cR limits++(ca facts++[.hd 1])) 63,.mp .str false (WM Value.string eB equal),.cells [.hd 3] 48,rC yj]) (fun y hm Kn1 aC=>?_) fun t h=>?_
 ·have h:=hm;clear hm;cbv;refine .g h (fun (v24:Bool)=>rp 3 .top++[oi node,.ptr 2 0]++rp 4 .top++[.ptr 3 0,.clo (.func 85) [] [.ptr 2 0,.ptr 5 0,.ptr 3 0]]++rp 49 .top++[ob v24]++rp 22 .top) (fun v24=>[.cells ([dq aZ rules,dq bC nodes,dq bJ leaves]++cR limits++(ca facts++[.hd 1])) 63,.mp .str false (WM Value.string eB equal),.cells [.ptr 0 0] 60,.cells [.hd 4] 48,rC qm,.cells [oi attr] 3]) (fun y hm Kn2 bg=>?_) fun t h=>?_
  ·have h:=hm;clear hm;cbv;refine .inl (hP▸yn2) ?_;cbv;refine .g h (fun _=>rfl) fun x25 h=>?_;cbv;refine aG h ?_ ?_<;>intro h
   ·cbv;refine .g h (fun _=>rfl) fun KW h=>?_;cbv;obtain rfl:=oj h;exact bg _ _ _ rfl (.nz (.aB [0,1,2,4,5,3] mx))
   ·cbv;obtain rfl:=oj h;exact bg _ _ _ rfl (.nz (.aB [0,1,2,4,5,3] mx))
  obtain⟨v24,rfl⟩:=ez t;cbv;refine aG h ?_ ?_<;>intro h
  ·cbv;refine .g h (fun _=>rfl) fun x27 h=>?_;cbv;refine .g h (fun ((rY,v29):(List Int)×Int)=>rp 9 .top++[.ptr 2 0,.clo (.func 85) [] [.ptr 4 0,.ptr 5 0,.ptr 2 0]]++rp 58 .top++[dq aH x27.aI,oi (io.len (W aH x27.aI)),oi v29]++rp 11 .top) (fun (rY,v29)=>[.cells ([dq aZ rules,dq bC nodes,dq bJ leaves]++cR limits++(ca facts++[.hd 1])) 63,.mp .str false (WM Value.string eB equal),.cells [.hd 3] 48,rC rY,.cells [.ptr 0 0] 60,.cells [oi attr] 3]) (.nz (.aB [0,1,3,4,2,5] ?_)) fun s x h hr2 Kn2 bg=>?_
   ·exact mx
   unfold OX at h;obtain⟨rY,v29⟩:=s;cbv;refine aG h ?_ ?_<;>intro h
   ·cbv;refine .g h (fun (yh:(List Int))=>rp 9 .top++[.ptr 2 0,.clo (.func 85) [] [.ptr 4 0,.ptr 5 0,.ptr 2 0]]++rp 58 .top++[dq aH x27.aI,oi (io.len (W aH x27.aI)),oi v29]++rp 11 .top) (fun yh=>[.cells ([dq aZ rules,dq bC nodes,dq bJ leaves]++cR limits++(ca facts++[.hd 1])) 63,.mp .str false (WM Value.string eB equal),.cells [.hd 3] 48,rC yh,.cells [.ptr 0 0] 60,.cells [oi attr] 3]) (fun y hm Kn3 aP=>?_) fun t h=>?_
    ·have h:=hm;clear hm;cbv;refine .g h (fun _=>rfl) fun x31 h=>?_;cbv;refine .inl (hP▸ZA) ?_;cbv;refine .g h (fun (v32:Bool)=>[oi x31,.top,.top,.ptr 2 0]++rp 20 .top++[ob v32]++rp 4 .top) (fun v32=>[.cells ([dq aZ rules,dq bC nodes,dq bJ leaves]++cR limits++(ca facts++[.hd 1])) 63,.mp .str false (WM Value.string eB equal),.cells [.hd 3] 48,rC rY,.cells [.ptr 0 0] 60,.cells [oi attr] 3]) (fun y hm ku aY=>?_) fun t h=>?_
     ·have h:=hm;clear hm;cbv
      refine .c10 h ?_ ?_ ?_ ?_ ?_ ?_ ?_ ?_ ?_ ?_<;>(
       intro Ut h;cbv;refine aG h ?_ ?_<;>intro h
       ·cbv;refine .at _ Ut (by decide) ?_;cbv;obtain rfl:=oj h;exact aY _ _ _ rfl (.nz (.aB [0,1,2,3,4,5] mx))
       ·cbv;obtain rfl:=oj h;exact aY _ _ _ rfl (.nz (.aB [0,1,2,3,4,5] mx))
       )
     obtain⟨v32,rfl⟩:=ez t;cbv;refine aG h ?_ ?_<;>intro h
     ·cbv;refine .g (e:=aH) h (gU aJ (jP _)) fun l34 h=>?_;cbv;refine .g h rfl (fun _=>rfl) (by decide) fun l35 h=>?_;cbv;obtain rfl:=oj h;exact aP _ _ _ rfl (.nz (.aB [0,1,2,7,4,5] mx))
     ·cbv;obtain rfl:=oj h;exact aP _ _ _ rfl (.nz (.aB [0,1,2,3,4,5] mx))
    obtain⟨yh,rfl⟩:=ez t;cbv;obtain rfl:=oj h;exact bg _ _ _ rfl (.nz (.aB [0,1,2,3,4,5] mx))
   ·cbv;obtain rfl:=oj h;obtain rfl:=hr2 _ rfl;exact aC _ _ _ rfl (.nz (.aB [0,1,2,3] mx))
  ·cbv;obtain rfl:=oj h;exact aC _ _ _ rfl (.nz (.aB [0,1,3,4] mx))
 obtain⟨yj,rfl⟩:=ez t;cbv;refine .g h (fun (yg:(List Int))=>rp 9 .top++[.ptr 2 0]++rp 73 .top) (fun yg=>[.cells ([dq aZ rules,dq bC nodes,dq bJ leaves]++cR limits++(ca facts++[.hd 1])) 63,.mp .str false (WM Value.string eB equal),.cells [.hd 3] 48,rC yg]) (fun y hm Kn1 aC=>?_) fun t h=>?_
 ·have h:=hm;clear hm;cbv;obtain⟨l37,hm,h⟩:=Option.bind_eq_some_iff.1 h;refine .xg [3] (oa0 hP _ _ hm) mx fun sv0 dG hq _=>?_;obtain⟨rfl,rfl⟩:=hq;clear hm;cbv;obtain rfl:=oj h;exact aC _ _ _ rfl (.nz (.aB [0,1,2,3] mx))
 obtain⟨yg,rfl⟩:=ez t;cbv;obtain⟨l38,hm,h⟩:=Option.bind_eq_some_iff.1 h;refine .xg [3] (nu0 hP _ _ hm) mx fun sv0 dG hq _=>?_;obtain⟨rfl,rfl⟩:=hq;clear hm;cbv;obtain rfl:=oj h;exact hK _ _ mx
end Go.SX.Td
