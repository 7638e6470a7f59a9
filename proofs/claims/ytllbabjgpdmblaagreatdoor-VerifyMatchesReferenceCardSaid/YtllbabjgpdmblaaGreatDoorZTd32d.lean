/- Parts of the proof. -/
import Derived.Test.YtllbabjgpdmblaaGreatDoorZTdT
set_option linter.unusedSimpArgs false
set_option linter.unusedVariables false
set_option linter.unusedSectionVars false
namespace Go.SX.Td
open Go Go.SX Go.Proofs
set_option maxRecDepth 100000
noncomputable def TB (r_:Rule):Option (Bool) :=
 bif (io.eq r_.Kind 1) then (
 bif (io.le 0 r_.N) then (
 some (io.le r_.N 100)
 ) else (
 some false
 )
 ) else (
 bif (io.eq r_.Kind 3) then (
 bif (io.le 0 r_.N) then (
 bif (io.le r_.N 10000000) then (
 bif (io.le 1 r_.R.Den) then (
 bif (io.le r_.R.Den 1000000) then (
 bif (io.le 0 r_.R.Num) then (
 bif (io.le r_.R.Num (io.ar .mul .i64 1 r_.R.Den)) then (
 bif (io.le r_.R.Num 1000000) then (
 bif (io.le 1 r_.S.Den) then (
 bif (io.le r_.S.Den 1000000) then (
 bif (io.le 0 r_.S.Num) then (
 bif (io.le r_.S.Num (io.ar .mul .i64 1 r_.S.Den)) then (
 some (io.le r_.S.Num 1000000)
 ) else (
 some false
 )
 ) else (
 some false
 )
 ) else (
 some false
 )
 ) else (
 some false
 )
 ) else (
 some false
 )
 ) else (
 some false
 )
 ) else (
 some false
 )
 ) else (
 some false
 )
 ) else (
 some false
 )
 ) else (
 some false
 )
 ) else (
 some false
 )
 ) else (
 bif (io.eq r_.Kind 4) then (
 bif (io.le 1 r_.R.Den) then (
 bif (io.le r_.R.Den 1000000) then (
 bif (io.le 0 r_.R.Num) then (
 bif (io.le r_.R.Num (io.ar .mul .i64 10 r_.R.Den)) then (
 bif (io.le r_.R.Num 1000000) then (
 bif (io.le 1 r_.S.Den) then (
 bif (io.le r_.S.Den 1000000) then (
 bif (io.le 0 r_.S.Num) then (
 bif (io.le r_.S.Num (io.ar .mul .i64 1 r_.S.Den)) then (
 some (io.le r_.S.Num 1000000)
 ) else (
 some false
 )
 ) else (
 some false
 )
 ) else (
 some false
 )
 ) else (
 some false
 )
 ) else (
 some false
 )
 ) else (
 some false
 )
 ) else (
 some false
 )
 ) else (
 some false
 )
 ) else (
 some false
 )
 ) else (
 bif (io.eq r_.Kind 5) then (
 bif (io.le 1 r_.R.Den) then (
 bif (io.le r_.R.Den 1000000) then (
 bif (io.le 0 r_.R.Num) then (
 bif (io.le r_.R.Num (io.ar .mul .i64 1 r_.R.Den)) then (
 some (io.le r_.R.Num 1000000)
 ) else (
 some false
 )
 ) else (
 some false
 )
 ) else (
 some false
 )
 ) else (
 some false
 )
 ) else (
 Option.bind (
 bif (io.eq r_.Kind 2) then (
 some (io.eq r_.Kind 2)
 ) else (
 bif (io.eq r_.Kind 6) then (
 some (io.eq r_.Kind 6)
 ) else (
 some (io.eq r_.Kind 7)
 )
 )
 ) fun v1 =>
 bif v1 then (
 some true
 ) else (
 some false
 )
 )
 )
 )
 )
noncomputable def KX : Option ((aF Range)) :=
 some (aF.mk (Range.mk 0 1000000000) (Range.mk 0 150) (Range.mk 0 1) (Range.mk 0 19) (Range.mk 0 7) (Range.mk 0 319) (Range.mk 0 3) (Range.mk 0 3) (Range.mk 1 12) (Range.mk 0 100))
noncomputable def TG (z_:(aF Range))(v1:(aF Range)):Int->Option ((Int) ⊕ ((Unit) ⊕ (Bool)))
 |v2 =>
 bif (io.lt v2 10) then (
 Option.bind (
 Option.bind (oh 10 v2) fun i5 =>
 some ((z_.get i5).Lo,(z_.get i5).Hi)
 ) fun (Qx,Qy) =>
 Option.bind (
 bif (io.lt Qy Qx) then (
 some true
 ) else (
 Option.bind (oh 10 v2) fun i7 =>
 bif (io.lt Qx (v1.get i7).Lo) then (
 some true
 ) else (
 some (io.lt (v1.get i7).Hi Qy)
 )
 )
 ) fun v6 =>
 bif v6 then (
 some (.inr (.inr false))
 ) else (
 some (.inl (io.ar .add .i64 v2 1))
 )
 ) else (
 some (.inr (.inl ()))
 )
noncomputable def Tz (z_:(aF Range)):Option (Bool) :=
 Option.bind (KX) fun v1 =>
 gu (
 dw (TG z_ v1) 0
 ) fun _ =>
 some true
noncomputable def Oi (x6:Rule)(m8:(List (ByteArray×Bool))):Int->Option ((Int) ⊕ ((Unit) ⊕ ((List (ByteArray×Bool))×Bool)))
 |v10 =>
 bif (io.lt v10 (io.len (W dD x6.ay))) then (
 Option.bind (
 Option.bind (bU x6.ay v10) fun x12 =>
 Option.bind (Tz x12) fun v13 =>
 some (io.not v13)
 ) fun v11 =>
 bif v11 then (
 some (.inr (.inr (m8,(io.le 0 v10))))
 ) else (
 some (.inl (io.ar .add .i64 v10 1))
 )
 ) else (
 some (.inr (.inl ()))
 )
noncomputable def Tm (p:au):((List (ByteArray×Bool))×Int)->Option (((List (ByteArray×Bool))×Int) ⊕ (((List (ByteArray×Bool))) ⊕ (Bool)))
 |(mY,v3) =>
 bif (io.lt v3 (io.len (W aZ p.Rules))) then (
 Option.bind (
 Option.bind (bU p.Rules v3) fun x6 =>
 Option.bind (some (nI mY x6.Name false)) fun y7 =>
 Option.bind (some (sW mY x6.Name true)) fun m8 =>
 bif y7 then (
 some (m8,true)
 ) else (
 Option.bind (TB x6) fun v9 =>
 bif (io.not v9) then (
 some (m8,true)
 ) else (
 bif (io.lt 200 (io.len (W dD x6.ay))) then (
 some (m8,true)
 ) else (
 gu (
 dw (Oi x6 m8) 0
 ) fun _ =>
 some (m8,(io.le 0 (-1)))
 )
 )
 )
 ) fun (own4,v5) =>
 bif v5 then (
 some (.inr (.inr (io.not (io.le 0 v3))))
 ) else (
 some (.inl (own4,(io.ar .add .i64 v3 1)))
 )
 ) else (
 some (.inr (.inl mY))
 )
noncomputable def QD (p:au):Option (Bool) :=
 bif (io.le (io.len (W aZ p.Rules)) 200) then (
 gu (
 dw (Tm p) ([],0)
 ) fun dK =>
 some (io.not (io.le 0 (-1)))
 ) else (
 some false
 )
noncomputable def Cj (n:Node)(xu:Int):(Int×Int)->Option ((Int×Int) ⊕ ((Unit) ⊕ (Bool)))
 |(Qw,v7) =>
 bif (io.lt v7 (io.len (W aH n.aI))) then (
 Option.bind (bU n.aI v7) fun x8 =>
 Option.bind (
 bif (io.le x8 Qw) then (
 some true
 ) else (
 some (io.lt xu x8)
 )
 ) fun v9 =>
 bif v9 then (
 some (.inr (.inr false))
 ) else (
 some (.inl (x8,(io.ar .add .i64 v7 1)))
 )
 ) else (
 some (.inr (.inl ()))
 )
noncomputable def D9 (n:Node)(t_:Table):Int->Option ((Int) ⊕ ((Unit) ⊕ (Bool)))
 |v10 =>
 bif (io.lt v10 (io.len (W aH n.Kids))) then (
 Option.bind (bU n.Kids v10) fun x11 =>
 Option.bind (
 bif (io.lt x11 0) then (
 some true
 ) else (
 bif (io.le (io.len (W bC t_.Nodes)) x11) then (
 some true
 ) else (
 bif (io.lt 0 v10) then (
 Option.bind (bU n.Kids (io.ar .sub .i64 v10 1)) fun mF =>
 bif (io.eq mF x11) then (
 some true
 ) else (
 Option.bind (bU t_.Nodes x11) fun x14 =>
 bif (io.lt 0 (io.len (W aH x14.Kids))) then (
 Option.bind (bU t_.Nodes x11) fun x15 =>
 some (io.le x15.Attr n.Attr)
 ) else (
 some false
 )
 )
 ) else (
 Option.bind (bU t_.Nodes x11) fun x16 =>
 bif (io.lt 0 (io.len (W aH x16.Kids))) then (
 Option.bind (bU t_.Nodes x11) fun x17 =>
 some (io.le x17.Attr n.Attr)
 ) else (
 some false
 )
 )
 )
 )
 ) fun v12 =>
 bif v12 then (
 some (.inr (.inr false))
 ) else (
 some (.inl (io.ar .add .i64 v10 1))
 )
 ) else (
 some (.inr (.inl ()))
 )
noncomputable def Gp (t_:Table)(n:Node):Option (Bool) :=
 bif (io.eq (io.len (W aH n.Kids)) 0) then (
 bif (io.eq (io.len (W aH n.aI)) 0) then (
 bif (io.eq n.Attr 0) then (
 bif (io.le 0 n.Leaf) then (
 some (io.lt n.Leaf (io.len (W bJ t_.Leaves)))
 ) else (
 some false
 )
 ) else (
 some false
 )
 ) else (
 some false
 )
 ) else (
 Option.bind (
 bif (io.lt n.Attr 0) then (
 some true
 ) else (
 bif (io.le 10 n.Attr) then (
 some true
 ) else (
 bif (io.not (io.eq n.Leaf 0)) then (
 some true
 ) else (
 bif (io.eq (io.len (W aH n.aI)) 0) then (
 some true
 ) else (
 some (io.not (io.eq (io.len (W aH n.Kids)) (io.ar .add .i64 (io.len (W aH n.aI)) 1)))
 )
 )
 )
 )
 ) fun v1 =>
 bif v1 then (
 some false
 ) else (
 Option.bind (
 Option.bind (KX) fun v4 =>
 Option.bind (oh 10 n.Attr) fun i5 =>
 some ((v4.get i5).Lo,(v4.get i5).Hi)
 ) fun (Bg,xu) =>
 gu (
 dw (Cj n xu) (Bg,0)
 ) fun _ =>
 gu (
 dw (D9 n t_) 0
 ) fun _ =>
 some true
 )
 )
noncomputable def RH (x4:Node)(rec:(Int->(List (Int×Bool))->Int->Option ((List (Int×Bool))×Int))):((List (Int×Bool))×Int×Int)->Option (((List (Int×Bool))×Int×Int) ⊕ ((List (Int×Bool))×Int))
 |(CW,c6,v7) =>
  bif (io.lt v7 (io.len (W aH x4.Kids))) then (
   Option.bind (
    Option.bind (bU x4.Kids v7) fun x10 =>
    Option.bind (rec x10 CW c6) fun r11 =>
    some (r11.1,r11.2)
    ) fun (Ej,c9) =>
   some (.inl (Ej,c9,(io.ar .add .i64 v7 1)))
  ) else (
   some (.inr (CW,c6))
  )
noncomputable def Pv (nodes:(List Node))(rec:(Int->(List (Int×Bool))->Int->Option ((List (Int×Bool))×Int)))(at0:Int)(seen:(List (Int×Bool)))(fG:Int):Option ((List (Int×Bool))×Int) :=
 Option.bind (some (nI seen at0 false)) fun y1 =>
 bif y1 then (
  some (seen,fG)
 ) else (
  Option.bind (some (sW seen at0 true)) fun m2 =>
  Option.bind (
   bif (io.eq at0 fG) then (
    some (io.ar .add .i64 fG 1)
   ) else (
    some fG
   )
   ) fun c3 =>
  Option.bind (bU nodes at0) fun x4 =>
  dw (RH x4 rec) (m2,c3,0)
 )
noncomputable def Lc (nodes:(List Node)):Nat->Int->(List (Int×Bool))->Int->Option ((List (Int×Bool))×Int)
 |0,_,_,_=>none
 |n+1,at0,seen,fG=>Pv nodes (Lc nodes n) at0 seen fG
noncomputable def Og (f:(aF Int))(x3:(aF Range)):Int->Option ((Int) ⊕ ((Unit) ⊕ (Bool)))
 |v4 =>
 bif (io.lt v4 10) then (
 Option.bind (
 Option.bind (oh 10 v4) fun i6 =>
 some (f.get i6)
 ) fun n5 =>
 Option.bind (
 Option.bind (oh 10 v4) fun Dh =>
 bif (io.lt n5 (x3.get Dh).Lo) then (
 some true
 ) else (
 some (io.lt (x3.get Dh).Hi n5)
 )
 ) fun v7 =>
 bif v7 then (
 some (.inr (.inr false))
 ) else (
 some (.inl (io.ar .add .i64 v4 1))
 )
 ) else (
 some (.inr (.inl ()))
 )
noncomputable def SY (r_:Rule)(f:(aF Int)):Int->Option ((Int) ⊕ ((Unit) ⊕ (Bool)))
 |v1 =>
 bif (io.lt v1 (io.len (W dD r_.ay))) then (
 Option.bind (
 Option.bind (bU r_.ay v1) fun x3 =>
 gu (
 dw (Og f x3) 0
 ) fun _ =>
 some true
 ) fun v2 =>
 bif v2 then (
 some (.inr (.inr (io.le 0 v1)))
 ) else (
 some (.inl (io.ar .add .i64 v1 1))
 )
 ) else (
 some (.inr (.inl ()))
 )
noncomputable def D8 (r_:Rule)(f:(aF Int)):Option (Bool) :=
 gu (
 dw (SY r_ f) 0
 ) fun _ =>
 some (io.le 0 (-1))
noncomputable def Tt (p:au)(f:(aF Int)):(Bool×Bool×Int×Int×Int×Int×Int×Int×Int×Int×Int×Int×Int×Int×Bool×Bool×Bool×Int×Int×Int)->Option ((Bool×Bool×Int×Int×Int×Int×Int×Int×Int×Int×Int×Int×Int×Int×Bool×Bool×Bool×Int×Int×Int) ⊕ (Bool×Bool×Int×Int×Int×Int×Int×Int×Int×Int×Int×Int×Int×Int×Bool×Bool×Bool×Int×Int))
 |(aK,aX,bf,bF,bZ,cO,bY,cu,dR,dU,cZ,dh,dQ,dS,aV,bM,bP,aS,aW,v39) =>
 bif (io.lt v39 (io.len (W aZ p.Rules))) then (
 Option.bind (
 Option.bind (bU p.Rules v39) fun bW =>
 bif (io.eq bW.Kind 1) then (
 Option.bind (
 Option.bind (D8 bW f) fun v61 =>
 some v61
 ) fun v60 =>
 bif v60 then (
 Option.bind (
 bif (io.lt aS 0) then (
 some v39
 ) else (
 some aS
 )
 ) fun iQ =>
 Option.bind (
 bif (io.lt 0 bW.N) then (
 bif (io.eq bf 0) then (
 some true
 ) else (
 some (io.lt bW.N bf)
 )
 ) else (
 some false
 )
 ) fun v63 =>
 bif v63 then (
 some (aK,aX,bW.N,bF,bZ,cO,bY,cu,dR,dU,cZ,dh,dQ,dS,aV,bM,bP,iQ,aW)
 ) else (
 some (aK,aX,bf,bF,bZ,cO,bY,cu,dR,dU,cZ,dh,dQ,dS,aV,bM,bP,iQ,aW)
 )
 ) else (
 some (aK,aX,bf,bF,bZ,cO,bY,cu,dR,dU,cZ,dh,dQ,dS,aV,bM,bP,aS,aW)
 )
 ) else (
 bif (io.eq bW.Kind 2) then (
 Option.bind (
 Option.bind (D8 bW f) fun v65 =>
 some v65
 ) fun v64 =>
 bif v64 then (
 bif (io.lt aW 0) then (
 some (aK,aX,bf,bF,bZ,cO,bY,cu,dR,dU,cZ,dh,dQ,dS,aV,bM,bP,aS,v39)
 ) else (
 some (aK,aX,bf,bF,bZ,cO,bY,cu,dR,dU,cZ,dh,dQ,dS,aV,bM,bP,aS,aW)
 )
 ) else (
 some (aK,aX,bf,bF,bZ,cO,bY,cu,dR,dU,cZ,dh,dQ,dS,aV,bM,bP,aS,aW)
 )
 ) else (
 bif (io.eq bW.Kind 3) then (
 Option.bind (
 Option.bind (D8 bW f) fun v67 =>
 some v67
 ) fun v66 =>
 bif v66 then (
 bif (io.not aV) then (
 some (aK,aX,bf,bW.N,bW.R.Num,bW.R.Den,bW.S.Num,bW.S.Den,dR,dU,cZ,dh,dQ,dS,true,bM,bP,aS,aW)
 ) else (
 some (aK,aX,bf,bF,bZ,cO,bY,cu,dR,dU,cZ,dh,dQ,dS,aV,bM,bP,aS,aW)
 )
 ) else (
 some (aK,aX,bf,bF,bZ,cO,bY,cu,dR,dU,cZ,dh,dQ,dS,aV,bM,bP,aS,aW)
 )
 ) else (
 bif (io.eq bW.Kind 4) then (
 Option.bind (
 Option.bind (D8 bW f) fun v69 =>
 some v69
 ) fun v68 =>
 bif v68 then (
 bif (io.not bM) then (
 some (aK,aX,bf,bF,bZ,cO,bY,cu,bW.R.Num,bW.R.Den,bW.S.Num,bW.S.Den,dQ,dS,aV,true,bP,aS,aW)
 ) else (
 some (aK,aX,bf,bF,bZ,cO,bY,cu,dR,dU,cZ,dh,dQ,dS,aV,bM,bP,aS,aW)
 )
 ) else (
 some (aK,aX,bf,bF,bZ,cO,bY,cu,dR,dU,cZ,dh,dQ,dS,aV,bM,bP,aS,aW)
 )
 ) else (
 bif (io.eq bW.Kind 5) then (
 Option.bind (
 Option.bind (D8 bW f) fun v71 =>
 some v71
 ) fun v70 =>
 bif v70 then (
 bif (io.not bP) then (
 some (aK,aX,bf,bF,bZ,cO,bY,cu,dR,dU,cZ,dh,bW.R.Num,bW.R.Den,aV,bM,true,aS,aW)
 ) else (
 some (aK,aX,bf,bF,bZ,cO,bY,cu,dR,dU,cZ,dh,dQ,dS,aV,bM,bP,aS,aW)
 )
 ) else (
 some (aK,aX,bf,bF,bZ,cO,bY,cu,dR,dU,cZ,dh,dQ,dS,aV,bM,bP,aS,aW)
 )
 ) else (
 bif (io.eq bW.Kind 6) then (
 Option.bind (
 Option.bind (D8 bW f) fun v73 =>
 some v73
 ) fun v72 =>
 bif v72 then (
 some (true,aX,bf,bF,bZ,cO,bY,cu,dR,dU,cZ,dh,dQ,dS,aV,bM,bP,aS,aW)
 ) else (
 some (aK,aX,bf,bF,bZ,cO,bY,cu,dR,dU,cZ,dh,dQ,dS,aV,bM,bP,aS,aW)
 )
 ) else (
 bif (io.eq bW.Kind 7) then (
 Option.bind (
 Option.bind (D8 bW f) fun v75 =>
 some v75
 ) fun v74 =>
 bif v74 then (
 some (aK,true,bf,bF,bZ,cO,bY,cu,dR,dU,cZ,dh,dQ,dS,aV,bM,bP,aS,aW)
 ) else (
 some (aK,aX,bf,bF,bZ,cO,bY,cu,dR,dU,cZ,dh,dQ,dS,aV,bM,bP,aS,aW)
 )
 ) else (
 Option.bind (
 some ()
 ) fun _ =>
 some (aK,aX,bf,bF,bZ,cO,bY,cu,dR,dU,cZ,dh,dQ,dS,aV,bM,bP,aS,aW)
 )
 )
 )
 )
 )
 )
 )
 ) fun (jL,lM,o9,oU,zh,zy,zf,zx,yZ,zu,yY,zq,yX,zo,lg,tZ,uQ,kF,lJ) =>
 some (.inl (jL,lM,o9,oU,zh,zy,zf,zx,yZ,zu,yY,zq,yX,zo,lg,tZ,uQ,kF,lJ,(io.ar .add .i64 v39 1)))
 ) else (
 some (.inr (aK,aX,bf,bF,bZ,cO,bY,cu,dR,dU,cZ,dh,dQ,dS,aV,bM,bP,aS,aW))
 )
noncomputable def PX (p:au)(f:(aF Int)):Option (Decision) :=
 Option.bind (
 dw (Tt p f) (false,false,0,0,0,1,0,1,0,1,0,1,0,1,false,false,false,(-1),(-1),0)
 ) fun (iR,kR,nU,nT,Bf,Bj,Bc,Bh,Ba,vI,uU,vH,uT,vG,jB,ql,rH,iq,iI) =>
 Option.bind (
 bif (io.le 0 iq) then (
 bif jB then (
 some (io.lt iI 0)
 ) else (
 some false
 )
 ) else (
 some false
 )
 ) fun jy =>
 Option.bind (
 bif (io.le 0 iI) then (
 some iI
 ) else (
 some iq
 )
 ) fun Gh =>
 some (Decision.mk jy iR kR nU nT (Ratio.mk Bf Bj) (Ratio.mk Bc Bh) (Ratio.mk Ba vI) (Ratio.mk uU vH) (Ratio.mk uT vG) Gh)
noncomputable def Ph (x1:Node)(v:Int):Int->Option ((Int) ⊕ ((Unit) ⊕ (Int)))
 |v3 =>
 bif (io.lt v3 (io.len (W aH x1.aI))) then (
 Option.bind (
 Option.bind (bU x1.aI v3) fun x5 =>
 some (io.lt v x5)
 ) fun v4 =>
 bif v4 then (
 some (.inr (.inr v3))
 ) else (
 some (.inl (io.ar .add .i64 v3 1))
 )
 ) else (
 some (.inr (.inl ()))
 )
noncomputable def Qc (rules:(List Rule))(nodes:(List Node))(leaves:(List Decision))(limits:(aF Range))(node:Int)(v:Int)(facts:(aF Int))(equal:(List (ByteArray×Bool))):Option (Int) :=
 Option.bind (bU nodes node) fun x1 =>
 Option.bind (
 gu (
 dw (Ph x1 v) 0
 ) fun _ =>
 some (-1)
 ) fun k2 =>
 Option.bind (
 bif (io.lt k2 0) then (
 some (io.len (W aH x1.aI))
 ) else (
 some k2
 )
 ) fun k6 =>
 Option.bind (bU x1.Kids k6) fun x7 =>
 some x7
noncomputable def QV : Option (Decision) :=
 some (Decision.mk false false false 0 0 (Ratio.mk 0 1) (Ratio.mk 0 1) (Ratio.mk 0 1) (Ratio.mk 0 1) (Ratio.mk 0 1) (-1))
noncomputable def P8 (sG:(List Int)):((aF Range)×Int)->Option (((aF Range)×Int) ⊕ ((aF Range)))
 |(z3,i4) =>
 bif (io.lt i4 (io.len (W aH sG))) then (
 Option.bind (
 Option.bind (oL sG i4) fun i6 =>
 Option.bind (sG[i6]?) fun v7 =>
 Option.bind (oh 10 i4) fun Dh =>
 some (z3.put Dh (Range.mk (z3.get Dh).Lo v7))
 ) fun z5 =>
 some (.inl (z5,(io.ar .add .i64 i4 1)))
 ) else (
 some (.inr z3)
 )
noncomputable def Bo : Option ((aF Range)) :=
 Option.bind (some [1000000000,150,1,19,7,319,3,3,12,100]) fun sG =>
 Option.bind (
 dw (P8 sG) ((aF.mk (Range.mk 0 0) (Range.mk 0 0) (Range.mk 0 0) (Range.mk 0 0) (Range.mk 0 0) (Range.mk 0 0) (Range.mk 0 0) (Range.mk 0 0) (Range.mk 0 0) (Range.mk 0 0)),0)
 ) fun z2 =>
 some (aF.mk z2.a0 z2.a1 z2.a2 z2.a3 z2.a4 z2.a5 z2.a6 z2.a7 (Range.mk 1 z2.a8.Hi) z2.a9)
noncomputable def PI (v1:(aF Range)):((aF Int)×Int)->Option (((aF Int)×Int) ⊕ ((aF Int)))
 |(f3,i4) =>
 bif (io.lt i4 10) then (
 Option.bind (
 Option.bind (oh 10 i4) fun i7 =>
 some ((f3.put i7 (v1.get i7).Lo),i4)
 ) fun (f5,i6) =>
 some (.inl (f5,(io.ar .add .i64 i6 1)))
 ) else (
 some (.inr f3)
 )
noncomputable def QJ : Option ((aF Int)) :=
 Option.bind (Bo) fun v1 =>
 Option.bind (
 dw (PI v1) ((aF.mk 0 0 0 0 0 0 0 0 0 0),0)
 ) fun f2 =>
 some f2
def wy3 : List ah:=gS 2 [.box 42 0]++gS 4 [.mv (cB false)]
def ww3 : List ah:=gS 5 [.aj 1 2,.load 1 false 5,.bin .geq 6 (ci 1),.mv 7]++gQ 8 true 9 [.aj 1 2,.load 1 false 9,.bin .leq 10 (ci 1000000)]++gS 12 [.pick 8 11 (cB false),.mv 12]++gQ 13 true 14 [.aj 0 2,.load 1 false 14,.bin .geq 15 (ci 0)]++gS 17 [.pick 13 16 (cB false),.mv 17]++gQ 18 true 19 [.aj 0 2,.load 1 false 19,.mv 1,.aj 1 2,.load 1 false 22,.bin .mul 21 23,.bin .leq 20 24]++gS 26 [.pick 18 25 (cB false),.mv 26]++gQ 27 true 28 [.aj 0 2,.load 1 false 28,.bin .leq 29 (ci 1000000)]++gS 31 [.pick 27 30 (cB false)]++gS 4 [.mv 31]
def c82 : fJ:=⟨32,.seq (.reg wy3) (.seq (.reg ww3) (.ret)),[.tmp 4]⟩
theorem S9 : fD Tryz.prog 82=some c82.er:=by kernel_rfl
def ga3 : List ah:=gS 1 [.box 58 0,.mv (cB false)]
def gr3 : List ah:=gS 3 [.aj 0 1,.load 1 false 3]
def gn3 : List ah:=gS 6 [.bin .eql 4 (ci 1)]++gS 5 [.mv 6]
def gt3 : List ah:=gS 7 [.aj 3 1,.load 1 false 7,.bin .geq 8 (ci 0),.mv 9]++gQ 10 true 11 [.aj 3 1,.load 1 false 11,.bin .leq 12 (ci 100)]++gS 14 [.pick 10 13 (cB false)]++gS 2 [.mv 14]
def gl3 : List ah:=gS 16 [.bin .eql 4 (ci 3)]++gS 15 [.mv 16]
def gd3 : List ah:=gS 17 [.aj 3 1,.load 1 false 17,.bin .geq 18 (ci 0),.mv 19]++gQ 20 true 21 [.aj 3 1,.load 1 false 21,.bin .leq 22 (ci 10000000)]++gS 24 [.pick 20 23 (cB false),.mv 24]++gQ 25 true 26 [.aj 4 1,.load 2 true 26,.call 82 [27,(ci 1)]]++gS 29 [.pick 25 28 (cB false),.mv 29]++gQ 30 true 31 [.aj 6 1,.load 2 true 31,.call 82 [32,(ci 1)]]++gS 34 [.pick 30 33 (cB false)]++gS 2 [.mv 34]
def gc3 : List ah:=gS 36 [.bin .eql 4 (ci 4)]++gS 35 [.mv 36]
def gm3 : List ah:=gS 37 [.aj 4 1,.load 2 true 37,.call 82 [38,(ci 10)],.mv 39]++gQ 40 true 41 [.aj 6 1,.load 2 true 41,.call 82 [42,(ci 1)]]++gS 44 [.pick 40 43 (cB false)]++gS 2 [.mv 44]
def gf3 : List ah:=gS 46 [.bin .eql 4 (ci 5)]++gS 45 [.mv 46]
def gh3 : List ah:=gS 47 [.aj 4 1,.load 2 true 47,.call 82 [48,(ci 1)]]++gS 2 [.mv 49]
def ay2 : List ah:=gS 51 [.bin .eql 4 (ci 2)]++gS 50 [.mv 51]
def aw2 : List ah:=gS 52 [.bin .eql 4 (ci 6)]++gS 50 [.mv 52]
def av2 : List ah:=gS 53 [.bin .eql 4 (ci 7)]++gS 50 [.mv 53]
def ak2 : List ah:=gS 2 [.mv (cB true)]
def ax2 : List ah:=gS 2 [.mv (cB false)]
def c47 : fJ:=⟨54,.seq (.reg ga3) (.seq (.seq (.reg gr3) (.block 0 (.seq (.reg gn3) (.cond 5 (.seq (.reg gt3) (.ret)) (.seq (.reg gl3) (.cond 15 (.seq (.reg gd3) (.ret)) (.seq (.reg gc3) (.cond 35 (.seq (.reg gm3) (.ret)) (.seq (.reg gf3) (.cond 45 (.seq (.reg gh3) (.ret)) (.join (.seq (.reg ay2) (.cond 50 (.skip) (.seq (.reg aw2) (.cond 50 (.skip) (.reg av2))))) (.cond 50 (.seq (.reg ak2) (.ret)) (.skip))))))))))))) (.seq (.reg ax2) (.ret))),[.tmp 2]⟩
theorem ab2 : fD Tryz.prog 47=some c47.er:=by kernel_rfl
set_option maxHeartbeats 4000000 in
theorem bj0 {P:Program}(hP:P=Tryz.prog)(r_:Rule)(r:Bool)(h:TB r_=some r):Fn1 P 47 [XH r_] (vB r):=by
 refine .mJ (hP▸ab2) fun K hK=>?_;unfold TB at h;cbv;refine aG h ?_ ?_<;>intro h
 ·cbv;refine aG h ?_ ?_<;>intro h
  ·cbv;obtain rfl:=oj h;exact hK _ _ aJ
  ·cbv;obtain rfl:=oj h;exact hK _ _ aJ
 ·cbv;refine aG h ?_ ?_<;>intro h
  ·cbv;refine aG h ?_ ?_<;>intro h
   ·cbv;refine aG h ?_ ?_<;>intro h
    ·cbv;refine .inl (hP▸S9) ?_;cbv;refine aG h ?_ ?_<;>intro h
     ·cbv;refine aG h ?_ ?_<;>intro h
      ·cbv;refine aG h ?_ ?_<;>intro h
       ·cbv;refine aG h ?_ ?_<;>intro h
        ·cbv;refine aG h ?_ ?_<;>intro h
         ·cbv;refine .inl (hP▸S9) ?_;cbv;refine aG h ?_ ?_<;>intro h
          ·cbv;refine aG h ?_ ?_<;>intro h
           ·cbv;refine aG h ?_ ?_<;>intro h
            ·cbv;refine aG h ?_ ?_<;>intro h
             ·cbv;obtain rfl:=oj h;exact hK _ _ aJ
             ·cbv;obtain rfl:=oj h;exact hK _ _ aJ
            ·cbv;obtain rfl:=oj h;exact hK _ _ aJ
           ·cbv;obtain rfl:=oj h;exact hK _ _ aJ
          ·cbv;obtain rfl:=oj h;exact hK _ _ aJ
         ·cbv;obtain rfl:=oj h;exact hK _ _ aJ
        ·cbv;obtain rfl:=oj h;exact hK _ _ aJ
       ·cbv;obtain rfl:=oj h;exact hK _ _ aJ
      ·cbv;obtain rfl:=oj h;exact hK _ _ aJ
     ·cbv;obtain rfl:=oj h;exact hK _ _ aJ
    ·cbv;obtain rfl:=oj h;exact hK _ _ aJ
   ·cbv;obtain rfl:=oj h;exact hK _ _ aJ
  ·cbv;refine aG h ?_ ?_<;>intro h
   ·cbv;refine .inl (hP▸S9) ?_;cbv;refine aG h ?_ ?_<;>intro h
    ·cbv;refine aG h ?_ ?_<;>intro h
     ·cbv;refine aG h ?_ ?_<;>intro h
      ·cbv;refine aG h ?_ ?_<;>intro h
       ·cbv;refine aG h ?_ ?_<;>intro h
        ·cbv;refine .inl (hP▸S9) ?_;cbv;refine aG h ?_ ?_<;>intro h
         ·cbv;refine aG h ?_ ?_<;>intro h
          ·cbv;refine aG h ?_ ?_<;>intro h
           ·cbv;refine aG h ?_ ?_<;>intro h
            ·cbv;obtain rfl:=oj h;exact hK _ _ aJ
            ·cbv;obtain rfl:=oj h;exact hK _ _ aJ
           ·cbv;obtain rfl:=oj h;exact hK _ _ aJ
          ·cbv;obtain rfl:=oj h;exact hK _ _ aJ
         ·cbv;obtain rfl:=oj h;exact hK _ _ aJ
        ·cbv;obtain rfl:=oj h;exact hK _ _ aJ
       ·cbv;obtain rfl:=oj h;exact hK _ _ aJ
      ·cbv;obtain rfl:=oj h;exact hK _ _ aJ
     ·cbv;obtain rfl:=oj h;exact hK _ _ aJ
    ·cbv;obtain rfl:=oj h;exact hK _ _ aJ
   ·cbv;refine aG h ?_ ?_<;>intro h
    ·cbv;refine .inl (hP▸S9) ?_;cbv;refine aG h ?_ ?_<;>intro h
     ·cbv;refine aG h ?_ ?_<;>intro h
      ·cbv;refine aG h ?_ ?_<;>intro h
       ·cbv;refine aG h ?_ ?_<;>intro h
        ·cbv;obtain rfl:=oj h;exact hK _ _ aJ
        ·cbv;obtain rfl:=oj h;exact hK _ _ aJ
       ·cbv;obtain rfl:=oj h;exact hK _ _ aJ
      ·cbv;obtain rfl:=oj h;exact hK _ _ aJ
     ·cbv;obtain rfl:=oj h;exact hK _ _ aJ
    ·cbv;refine .g h (fun (v1:Bool)=>rp 50 .top++[ob v1]++rp 3 .top) (fun v1=>[]) (fun y hm Kn1 aC=>?_) fun t h=>?_
     ·have h:=hm;clear hm;cbv;refine aG h ?_ ?_<;>intro h
      ·cbv;obtain rfl:=oj h;exact aC _ _ _ rfl (.nz (.aB [] mx))
      ·cbv;refine aG h ?_ ?_<;>intro h
       ·cbv;obtain rfl:=oj h;exact aC _ _ _ rfl (.nz (.aB [] mx))
       ·cbv;obtain rfl:=oj h;exact aC _ _ _ rfl (.nz (.aB [] mx))
     obtain⟨v1,rfl⟩:=ez t;cbv;refine aG h ?_ ?_<;>intro h
     ·cbv;obtain rfl:=oj h;exact hK _ _ aJ
     ·cbv;obtain rfl:=oj h;exact hK _ _ aJ
def ao3 : List ah:=gS 0 [.alloc 54 (.agg #[oz,oz,oz,oz,oz,oz,oz,oz,oz,oz,oz,oz,oz,oz,oz,oz,oz,oz,oz,oz])]
def ai3 : List ah:=gS 1 [.build (.agg #[oz,oz]) [((1,1),(ci 1000000000))],.build (.agg #[oz,oz]) [((1,1),(ci 150))],.build (.agg #[oz,oz]) [((1,1),(ci 1))],.build (.agg #[oz,oz]) [((1,1),(ci 19))],.build (.agg #[oz,oz]) [((1,1),(ci 7))],.build (.agg #[oz,oz]) [((1,1),(ci 319))],.build (.agg #[oz,oz]) [((1,1),(ci 3))],.build (.agg #[oz,oz]) [((1,1),(ci 3))],.build (.agg #[oz,oz]) [((0,1),(ci 1)),((1,1),(ci 12))],.build (.agg #[oz,oz]) [((1,1),(ci 100))],.build (.agg #[oz,oz,oz,oz,oz,oz,oz,oz,oz,oz,oz,oz,oz,oz,oz,oz,oz,oz,oz,oz]) [((0,2),1),((2,2),2),((4,2),3),((6,2),4),((8,2),5),((10,2),6),((12,2),7),((14,2),8),((16,2),9),((18,2),10)]]++[⟨none,.store 20 0 11,none⟩]
def c23 : fJ:=⟨12,.seq (.reg ao3) (.seq (.reg ai3) (.ret)),[.cell 0 20 true]⟩
theorem bw2 : fD Tryz.prog 23=some c23.er:=by kernel_rfl
set_option maxHeartbeats 4000000 in
theorem Zp {P:Program}(hP:P=Tryz.prog)(r:(aF Range))(h:KX=some r):Fn1 P 23 [] (ZL r):=by
 refine .mJ (hP▸bw2) fun K hK=>?_;unfold KX at h;cbv;obtain rfl:=oj h;exact hK _ _ aJ
def gv3 : List ah:=gS 1 [.box 54 0,.mv (cB false)]
def gk3 : List ah:=gS 6 [.call 23 []]++gS 3 [.alloc 54 (.agg #[oz,oz,oz,oz,oz,oz,oz,oz,oz,oz,oz,oz,oz,oz,oz,oz,oz,oz,oz,oz])]++[⟨none,.store 20 3 6,none⟩]
def gx3 : List ah:=gS 7 [.load 20 true 1,.mv (ci 0)]
def gj3 : List ah:=gS 9 [.bin .lss 8 (ci 10)]
def gz3 : List ah:=gS 10 [.mv 8,.lD 10 2 true 7 8]++gS 5 [.alloc 52 (.agg #[oz,oz])]++gS 4 [.mv 10]++[⟨none,.store 2 5 11,none⟩]
def gq3 : List ah:=gS 12 [.aj 0 5,.load 1 false 12,.aj 1 5,.load 1 false 14,.bin .gtr 13 15,.mv 16]++gQ 17 false 18 [.aj 0 5,.load 1 false 18,.mv 4,.eH 10 2 3 20,.aj 0 21,.load 1 false 22,.bin .lss 19 23]++gS 25 [.pick 17 (cB true) 24,.mv 25]++gQ 26 false 27 [.aj 1 5,.load 1 false 27,.mv 4,.eH 10 2 3 29,.aj 1 30,.load 1 false 31,.bin .gtr 28 32]++gS 34 [.pick 26 (cB true) 33]
def hm3 : List ah:=gS 2 [.mv (cB false)]
def uu3 : List ah:=gS 35 [.bin .add 8 (ci 1)]++gS 8 [.mv 35]
def gw3 : DE:=.seq (.reg gj3) (.seq (.cond 9 (.skip) (.exit 0)) (.seq (.block 1 (.join (.reg gz3) (.join (.par true true true 21 gq3) (.cond 34 (.seq (.reg hm3) (.ret)) (.skip))))) (.reg uu3)))
def uo3 : List ah:=gS 2 [.mv (cB true)]
def c50 : fJ:=⟨36,.seq (.reg gv3) (.seq (.reg gk3) (.join (.seq (.reg gx3) (.block 0 (.loop gw3))) (.seq (.reg uo3) (.ret)))),[.tmp 2]⟩
theorem az2 : fD Tryz.prog 50=some c50.er:=by kernel_rfl
set_option maxHeartbeats 4000000 in
theorem cr0 {P:Program}(hP:P=Tryz.prog)(z_:(aF Range))(r:Bool)(h:Tz z_=some r):Fn1 P 50 [ZL z_] (vB r):=by
 refine .mJ (hP▸az2) fun K hK=>?_;unfold Tz at h;cbv;refine .g h (fun v hv=>Zp hP v hv) aJ rfl (fun _=>rfl) fun v1 h=>?_;cbv;refine .ga h (fun (_:Unit)=>rp 36 .top) (fun _=>[]) (fun y hm hr1 Kn1 aC=>?_) fun t h=>?_
 ·have h:=hm;clear hm;cbv;refine .g h (fun (v2:Int)=>rp 3 .top++[.ptr 0 0]++rp 3 .top++[.agg (cR z_),oi v2]++rp 27 .top) (fun v2=>[.cells (cR v1) 54]) (.nz (.aB [1] ?_)) fun s x h hr2 Kn2 bg=>?_
  ·exact mx
  unfold TG at h;obtain⟨v2,rfl⟩:=ez s;cbv;refine aG h ?_ ?_<;>intro h
  ·cbv;refine .g h (fun ((Qx,Qy):Int×Int)=>rp 3 .top++[.ptr 0 0,oi v2,.ptr 1 0,.top,.agg (cR z_),oi v2]++rp 27 .top) (fun (Qx,Qy)=>[.cells (cR v1) 54,.cells [oi Qx,oi Qy] 52]) (fun y hm Kn3 aP=>?_) fun t h=>?_
   ·have h:=hm;clear hm;cbv
    refine .c10 h ?_ ?_ ?_ ?_ ?_ ?_ ?_ ?_ ?_ ?_<;>(
     intro Ur h;cbv;obtain rfl:=oj h;exact aP _ _ _ rfl (.nz (.aB [0,1] mx))
     )
   obtain⟨Qx,Qy⟩:=t;cbv;refine .g h (fun (v6:Bool)=>rp 3 .top++[.ptr 0 0]++rp 3 .top++[.agg (cR z_),oi v2]++rp 25 .top++[ob v6,.top]) (fun v6=>[.cells (cR v1) 54]) (fun y hm Kn3 aP=>?_) fun t h=>?_
   ·have h:=hm;clear hm;cbv;refine aG h ?_ ?_<;>intro h
    ·cbv;obtain rfl:=oj h;exact aP _ _ _ rfl (.nz (.aB [0] mx))
    ·cbv
     refine .c10 h ?_ ?_ ?_ ?_ ?_ ?_ ?_ ?_ ?_ ?_<;>(
      intro ML h;cbv;refine aG h ?_ ?_<;>intro h
      ·cbv;obtain rfl:=oj h;exact aP _ _ _ rfl (.nz (.aB [0] mx))
      ·cbv;refine .at _ ML (by decide) ?_;cbv;obtain rfl:=oj h;exact aP _ _ _ rfl (.nz (.aB [0] mx))
      )
   obtain⟨v6,rfl⟩:=ez t;cbv;refine aG h ?_ ?_<;>intro h
   ·cbv;obtain rfl:=oj h;obtain rfl:=hr2 _ rfl;obtain rfl:=hr1 _ rfl;exact hK _ _ aJ
   ·cbv;obtain rfl:=oj h;exact bg _ _ _ rfl (.nz (.aB [0] mx))
  ·cbv;obtain rfl:=oj h;obtain rfl:=hr2 _ rfl;exact aC _ _ _ rfl (.nz (.aB [] mx))
 cbv;obtain rfl:=oj h;exact hK _ _ aJ
def ui3 : List ah:=gS 4 [.mv (cB false)]
def ue3 : List ah:=gS 5 [.mv 0,.mv 1,.call 84 [5,6],.bin .geq 7 (ci 0)]++gS 4 [.mv 8]
def c51 : fJ:=⟨9,.seq (.reg ui3) (.seq (.reg ue3) (.ret)),[.tmp 4]⟩
theorem aq2 : fD Tryz.prog 51=some c51.er:=by kernel_rfl
def za3 : List ah:=gS 4 [.mv (ci 0)]
def zr3 : List ah:=gS 6 [.mv 0,.len false 6,.mv (ci 0)]
def zn3 : List ah:=gS 9 [.bin .lss 8 7]
def zs3 : List ah:=gS 10 [.mv 8]++gS 5 [.mv 10]
def zt3 : List ah:=gS 11 [.mv 1,.mv 0,.mv 5,.aQ 8 12 13,.load 8 true 14,.fZ 11 [15]]
def zl3 : List ah:=gS 17 [.mv 5]++gS 4 [.mv 17]
def zd3 : List ah:=gS 18 [.bin .add 8 (ci 1)]++gS 8 [.mv 18]
def ze3 : DE:=.seq (.reg zn3) (.seq (.cond 9 (.skip) (.exit 0)) (.seq (.block 1 (.seq (.reg zs3) (.join (.reg zt3) (.cond 16 (.seq (.reg zl3) (.ret)) (.skip))))) (.reg zd3)))
def zc3 : List ah:=gS 4 [.mv (ci (-1))]
def c84 : fJ:=⟨19,.seq (.reg za3) (.join (.seq (.reg zr3) (.block 0 (.loop ze3))) (.seq (.reg zc3) (.ret))),[.tmp 4]⟩
theorem fy2 : fD Tryz.prog 84=some c84.er:=by kernel_rfl
def gu3 : List ah:=gS 2 [.box 58 0,.mv (cB false)]
def go3 : List ah:=gS 5 [.load 1 false 1,.aj 1 2,.load 1 false 6,.lI .str false false (.bool false) 5 7]++gS 4 [.mv 8]
def gi3 : List ah:=gS 9 [.load 1 false 1,.aj 1 2,.load 1 false 10]++[⟨none,.lq .str false 9 11 (cB true),none⟩]
def ge3 : List ah:=gS 12 [.mv 4,.mv 12]++gQ 13 false 14 [.load 8 true 2,.call 47 [14],.un .not 15]++gS 17 [.pick 13 (cB true) 16,.mv 17]++gQ 18 false 19 [.aj 2 2,.load 1 false 19,.len false 20,.bin .gtr 21 (ci 200)]++gS 23 [.pick 18 (cB true) 22,.mv 23]++gQ 24 false 25 [.aj 2 2,.load 1 false 25,.call 48 [26,(.func 49)]]++gS 28 [.pick 24 (cB true) 27]++gS 3 [.mv 28]
def c46 : fJ:=⟨29,.seq (.reg gu3) (.seq (.reg go3) (.seq (.reg gi3) (.seq (.reg ge3) (.ret)))),[.tmp 3]⟩
theorem ag2 : fD Tryz.prog 46=some c46.er:=by kernel_rfl
def gp3 : List ah:=gS 4 [.mv (cB false)]
def gg3 : List ah:=gS 5 [.mv 0,.mv 1,.call 83 [5,6],.bin .geq 7 (ci 0)]++gS 4 [.mv 8]
def c48 : fJ:=⟨9,.seq (.reg gp3) (.seq (.reg gg3) (.ret)),[.tmp 4]⟩
theorem yr2 : fD Tryz.prog 48=some c48.er:=by kernel_rfl
def wk3 : List ah:=gS 4 [.mv (ci 0)]
def wx3 : List ah:=gS 6 [.mv 0,.len false 6,.mv (ci 0)]
def wj3 : List ah:=gS 9 [.bin .lss 8 7]
def wz3 : List ah:=gS 10 [.mv 8]++gS 5 [.mv 10]
def wq3 : List ah:=gS 11 [.mv 1,.mv 0,.mv 5,.aQ 20 12 13,.load 20 true 14,.fZ 11 [15]]
def zu3 : List ah:=gS 17 [.mv 5]++gS 4 [.mv 17]
def zo3 : List ah:=gS 18 [.bin .add 8 (ci 1)]++gS 8 [.mv 18]
def wv3 : DE:=.seq (.reg wj3) (.seq (.cond 9 (.skip) (.exit 0)) (.seq (.block 1 (.seq (.reg wz3) (.join (.reg wq3) (.cond 16 (.seq (.reg zu3) (.ret)) (.skip))))) (.reg zo3)))
def zi3 : List ah:=gS 4 [.mv (ci (-1))]
def c83 : fJ:=⟨19,.seq (.reg wk3) (.join (.seq (.reg wx3) (.block 0 (.loop wv3))) (.seq (.reg zi3) (.ret))),[.tmp 4]⟩
theorem yt2 : fD Tryz.prog 83=some c83.er:=by kernel_rfl
def gb3 : List ah:=gS 1 [.box 54 0,.mv (cB false)]
def gy3 : List ah:=gS 3 [.load 20 true 1,.call 50 [3],.un .not 4]++gS 2 [.mv 5]
def c49 : fJ:=⟨6,.seq (.reg gb3) (.seq (.reg gy3) (.ret)),[.tmp 2]⟩
theorem aj2 : fD Tryz.prog 49=some c49.er:=by kernel_rfl
def pj3 : List ah:=gS 1 [.box 24 0,.mv (cB false)]
def pz3 : List ah:=gS 5 [.DI .str false]++gS 3 [.alloc 61 (.map none)]++[⟨none,.store 1 3 5,none⟩]
def pq3 : List ah:=gS 6 [.jE (.func 46) [] [3]]++gS 4 [.mv 6]
def au3 : List ah:=gS 7 [.aj 0 1,.load 1 false 7,.len false 8,.bin .leq 9 (ci 200),.mv 10]++gQ 11 true 12 [.aj 0 1,.load 1 false 12,.mv 4,.call 51 [13,14],.un .not 15]++gS 17 [.pick 11 16 (cB false)]++gS 2 [.mv 17]
def c22 : fJ:=⟨18,.seq (.reg pj3) (.seq (.reg pz3) (.seq (.reg pq3) (.seq (.reg au3) (.ret)))),[.tmp 2]⟩
theorem by2 : fD Tryz.prog 22=some c22.er:=by kernel_rfl
set_option maxHeartbeats 4000000 in
theorem iz0 {P:Program}(hP:P=Tryz.prog)(p:au)(r:Bool)(h:QD p=some r):Fn1 P 22 [BA p] (vB r):=by
 refine .mJ (hP▸by2) fun K hK=>?_;unfold QD at h;cbv;refine aG h ?_ ?_<;>intro h
 ·cbv;refine .inl (hP▸aq2) ?_;cbv;refine .inl (hP▸fy2) ?_;cbv;refine .ga h (fun (dK:(List (ByteArray×Bool)))=>rp 19 .top) (fun dK=>[.cells [dq aZ p.Rules] 24,.mp .str false (WM Value.string eB dK),.cells [.hd 1] 61]) (fun y hm hr1 Kn1 aC=>?_) fun t h=>?_
  ·have h:=hm;clear hm;cbv;refine .g h (fun ((mY,v3):(List (ByteArray×Bool))×Int)=>[dq aZ p.Rules,.clo (.func 46) [] [.ptr 2 0]]++rp 5 .top++[oi (io.len (W aZ p.Rules)),oi v3]++rp 10 .top) (fun (mY,v3)=>[.cells [dq aZ p.Rules] 24,.mp .str false (WM Value.string eB mY),.cells [.hd 1] 61]) (.nz (.aB [0,1,2] ?_)) fun s x h hr2 Kn2 bg=>?_
   ·exact mx
   unfold Tm at h;obtain⟨mY,v3⟩:=s;cbv;refine aG h ?_ ?_<;>intro h
   ·cbv;refine .g h (fun ((own4,v5):(List (ByteArray×Bool))×Bool)=>[dq aZ p.Rules,.clo (.func 46) [] [.ptr 2 0]]++rp 3 .top++[oi v3,.top,oi (io.len (W aZ p.Rules)),oi v3]++rp 7 .top++[ob v5,.top,.top]) (fun (own4,v5)=>[.cells [dq aZ p.Rules] 24,.mp .str false (WM Value.string eB own4),.cells [.hd 1] 61]) (fun y hm Kn3 aP=>?_) fun t h=>?_
    ·have h:=hm;clear hm;cbv;refine .g h (fun _=>rfl) fun x6 h=>?_;cbv;refine .inl (hP▸ag2) ?_;cbv;refine .gs (e:=eB) h (by first|rfl|exact GK _ _) (fun h=>h) fun y7 h=>?_;cbv;refine .gs (e:=eB) h (by first|rfl|exact GK _ _) aJ fun m8 h=>?_;cbv;refine aG h ?_ ?_<;>intro h
     ·cbv;obtain rfl:=oj h;exact aP _ _ _ rfl (.nz (.aB [0,1,2] mx))
     ·cbv;refine .g h (fun v hv=>bj0 hP _ v hv) aJ rfl (fun _=>rfl) fun v9 h=>?_;cbv;refine aG h ?_ ?_<;>intro h
      ·cbv;obtain rfl:=oj h;exact aP _ _ _ rfl (.nz (.aB [0,1,2] mx))
      ·cbv;refine aG h ?_ ?_<;>intro h
       ·cbv;obtain rfl:=oj h;exact aP _ _ _ rfl (.nz (.aB [0,1,2] mx))
       ·cbv;refine .inl (hP▸yr2) ?_;cbv;refine .inl (hP▸yt2) ?_;cbv;refine .ga h (fun (_:Unit)=>rp 19 .top) (fun _=>[.cells [dq aZ p.Rules] 24,.mp .str false (WM Value.string eB m8),.cells [.hd 1] 61,.cells [oi x6.Kind,.d (.val (.string x6.Name)),dq dD x6.ay,oi x6.N,oi x6.R.Num,oi x6.R.Den,oi x6.S.Num,oi x6.S.Den] 58]) (fun y hm hr4 ku aY=>?_) fun t h=>?_
        ·have h:=hm;clear hm;cbv;refine .g h (fun (v10:Int)=>[dq dD x6.ay,.clo (.func 49) [] []]++rp 5 .top++[oi (io.len (W dD x6.ay)),oi v10]++rp 10 .top) (fun v10=>[.cells [dq aZ p.Rules] 24,.mp .str false (WM Value.string eB m8),.cells [.hd 1] 61,.cells [oi x6.Kind,.d (.val (.string x6.Name)),dq dD x6.ay,oi x6.N,oi x6.R.Num,oi x6.R.Den,oi x6.S.Num,oi x6.S.Den] 58]) (.nz (.aB [0,1,2,3] ?_)) fun s x h wo Hr jH=>?_
         ·exact mx
         unfold Oi at h;obtain⟨v10,rfl⟩:=ez s;cbv;refine aG h ?_ ?_<;>intro h
         ·cbv;refine .g h (fun (v11:Bool)=>[dq dD x6.ay,.clo (.func 49) [] []]++rp 3 .top++[oi v10,.top,oi (io.len (W dD x6.ay)),oi v10]++rp 7 .top++[ob v11,.top,.top]) (fun v11=>[.cells [dq aZ p.Rules] 24,.mp .str false (WM Value.string eB m8),.cells [.hd 1] 61,.cells [oi x6.Kind,.d (.val (.string x6.Name)),dq dD x6.ay,oi x6.N,oi x6.R.Num,oi x6.R.Den,oi x6.S.Num,oi x6.S.Den] 58]) (fun y hm N9 jY=>?_) fun t h=>?_
          ·have h:=hm;clear hm;cbv;refine .g h (fun _=>rfl) fun x12 h=>?_;cbv;refine .inl (hP▸aj2) ?_;cbv;refine .g h (fun v hv=>cr0 hP _ v hv) aJ rfl (fun _=>rfl) fun v13 h=>?_;cbv;obtain rfl:=oj h;exact jY _ _ _ rfl (.nz (.aB [0,1,2,3] mx))
          obtain⟨v11,rfl⟩:=ez t;cbv;refine aG h ?_ ?_<;>intro h
          ·cbv;obtain rfl:=oj h;obtain rfl:=wo _ rfl;obtain rfl:=hr4 _ rfl;exact aP _ _ _ rfl (.nz (.aB [0,1,2] mx))
          ·cbv;obtain rfl:=oj h;exact jH _ _ _ rfl (.nz (.aB [0,1,2,3] mx))
         ·cbv;obtain rfl:=oj h;obtain rfl:=wo _ rfl;exact aY _ _ _ rfl (.nz (.aB [0,1,2,3] mx))
        cbv;obtain rfl:=oj h;exact aP _ _ _ rfl (.nz (.aB [0,1,2] mx))
    obtain⟨own4,v5⟩:=t;cbv;refine aG h ?_ ?_<;>intro h
    ·cbv;obtain rfl:=oj h;obtain rfl:=hr2 _ rfl;obtain rfl:=hr1 _ rfl;exact hK _ _ aJ
    ·cbv;obtain rfl:=oj h;exact bg _ _ _ rfl (.nz (.aB [0,1,2] mx))
   ·cbv;obtain rfl:=oj h;obtain rfl:=hr2 _ rfl;exact aC _ _ _ rfl (.nz (.aB [0,1,2] mx))
  obtain⟨dK,rfl⟩:=ez t;cbv;obtain rfl:=oj h;exact hK _ _ aJ
 ·cbv;obtain rfl:=oj h;exact hK _ _ aJ
def dd3 : List ah:=gS 2 [.box 28 0,.box 50 1,.mv (cB false)]
def dc3 : List ah:=gS 10 [.aj 2 3,.load 1 false 10,.len false 11,.bin .eql 12 (ci 0)]
def dm3 : List ah:=gS 14 [.aj 1 3,.load 1 false 14,.len false 15,.bin .eql 16 (ci 0),.mv 17]++gQ 18 true 19 [.aj 0 3,.load 1 false 19,.bin .eql 20 (ci 0)]++gS 22 [.pick 18 21 (cB false),.mv 22]++gQ 23 true 24 [.aj 3 3,.load 1 false 24,.bin .geq 25 (ci 0)]++gS 27 [.pick 23 26 (cB false),.mv 27]++gQ 28 true 29 [.aj 3 3,.load 1 false 29,.aj 1 2,.load 1 false 31,.len false 32,.bin .lss 30 33]++gS 35 [.pick 28 34 (cB false)]++gS 4 [.mv 35]
def df3 : List ah:=gS 36 [.aj 0 3,.load 1 false 36,.bin .lss 37 (ci 0),.mv 38]++gQ 39 false 40 [.aj 0 3,.load 1 false 40,.bin .geq 41 (ci 10)]++gS 43 [.pick 39 (cB true) 42,.mv 43]++gQ 44 false 45 [.aj 3 3,.load 1 false 45,.bin .neq 46 (ci 0)]++gS 48 [.pick 44 (cB true) 47,.mv 48]++gQ 49 false 50 [.aj 1 3,.load 1 false 50,.len false 51,.bin .eql 52 (ci 0)]++gS 54 [.pick 49 (cB true) 53,.mv 54]++gQ 55 false 56 [.aj 2 3,.load 1 false 56,.len false 57,.aj 1 3,.load 1 false 59,.len false 60,.bin .add 61 (ci 1),.bin .neq 58 62]++gS 64 [.pick 55 (cB true) 63]
def dh3 : List ah:=gS 4 [.mv (cB false)]
def dp3 : List ah:=gS 65 [.call 23 [],.aj 0 3,.load 1 false 66,.lD 10 2 true 65 67]++gS 5 [.alloc 52 (.agg #[oz,oz])]++[⟨none,.store 2 5 68,none⟩]
def dg3 : List ah:=gS 69 [.aj 1 3,.load 1 false 69,.len false 70,.mv (ci 0)]
def db3 : List ah:=gS 73 [.bin .lss 72 71]
def dy3 : List ah:=gS 74 [.aQ 1 70 72,.load 1 false 74]++gS 7 [.mv 75]
def dw3 : List ah:=gS 76 [.mv 7,.aj 0 5,.load 1 false 77,.bin .leq 76 78,.mv 79]++gQ 80 false 81 [.mv 7,.aj 1 5,.load 1 false 82,.bin .gtr 81 83]++gS 85 [.pick 80 (cB true) 84]
def pg2 : List ah:=gS 4 [.mv (cB false)]
def pb2 : List ah:=gS 86 [.mv 7,.aj 0 5]++[⟨none,.store 1 87 86,none⟩]
def py2 : List ah:=gS 88 [.bin .add 72 (ci 1)]++gS 72 [.mv 88]
def pf2 : DE:=.seq (.reg db3) (.seq (.cond 73 (.skip) (.exit 0)) (.seq (.block 1 (.seq (.reg dy3) (.seq (.join (.reg dw3) (.cond 85 (.seq (.reg pg2) (.ret)) (.skip))) (.reg pb2)))) (.reg py2)))
def pw2 : List ah:=gS 89 [.aj 2 3,.load 1 false 89,.len false 90,.mv (ci 0)]
def pv2 : List ah:=gS 93 [.bin .lss 92 91]
def pk2 : List ah:=gS 94 [.mv 92,.aQ 1 90 92,.load 1 false 95]++gS 8 [.mv 94,.mv 96]
def px2 : List ah:=gS 97 [.mv 9,.bin .lss 97 (ci 0),.mv 98]++gQ 99 false 100 [.mv 9,.aj 0 2,.load 1 false 101,.len false 102,.bin .geq 100 103]++gS 105 [.pick 99 (cB true) 104,.mv 105]++gQ 106 false 107 [.mv 8,.bin .gtr 107 (ci 0),.mv 108]++gQ 109 true 110 [.aj 2 3,.load 1 false 110,.mv 8,.bin .sub 112 (ci 1),.aQ 1 111 113,.load 1 false 114,.mv 9,.bin .eql 115 116]++gQ 106 false 118 [.pick 109 117 (cB false)]++gS 119 [.pick 106 (cB true) 118,.mv 119]++gQ 120 false 121 [.aj 0 2,.load 1 false 121,.mv 9,.aQ 4 122 123,.aj 2 124,.load 1 false 125,.len false 126,.bin .gtr 127 (ci 0),.mv 128]++gQ 129 true 130 [.aj 0 2,.load 1 false 130,.mv 9,.aQ 4 131 132,.aj 0 133,.load 1 false 134,.aj 0 3,.load 1 false 136,.bin .leq 135 137]++gQ 120 false 139 [.pick 129 138 (cB false)]++gS 140 [.pick 120 (cB true) 139]
def pj2 : List ah:=gS 4 [.mv (cB false)]
def pz2 : List ah:=gS 141 [.bin .add 92 (ci 1)]++gS 92 [.mv 141]
def ph2 : DE:=.seq (.reg pv2) (.seq (.cond 93 (.skip) (.exit 2)) (.seq (.block 3 (.seq (.reg pk2) (.join (.par true true true 41 px2) (.cond 140 (.seq (.reg pj2) (.ret)) (.skip))))) (.reg pz2)))
def pq2 : List ah:=gS 4 [.mv (cB true)]
def c39 : fJ:=⟨142,.seq (.reg dd3) (.seq (.seq (.reg dc3) (.cond 13 (.seq (.reg dm3) (.ret)) (.skip))) (.seq (.join (.reg df3) (.cond 64 (.seq (.reg dh3) (.ret)) (.skip))) (.join (.par false false false 5 dp3) (.join (.seq (.reg dg3) (.block 0 (.loop pf2))) (.join (.seq (.reg pw2) (.block 2 (.loop ph2))) (.seq (.reg pq2) (.ret))))))),[.tmp 4]⟩
theorem pm2 : fD Tryz.prog 39=some c39.er:=by kernel_rfl
set_option maxHeartbeats 4000000 in
theorem el0 {P:Program}(hP:P=Tryz.prog)(t_:Table)(n:Node)(r:Bool)(h:Gp t_ n=some r):Fn1 P 39 [BR t_,La n] (vB r):=by
 refine .mJ (hP▸pm2) fun K hK=>?_;unfold Gp at h;cbv;refine aG h ?_ ?_<;>intro h
 ·cbv;refine aG h ?_ ?_<;>intro h
  ·cbv;refine aG h ?_ ?_<;>intro h
   ·cbv;refine aG h ?_ ?_<;>intro h
    ·cbv;obtain rfl:=oj h;exact hK _ _ aJ
    ·cbv;obtain rfl:=oj h;exact hK _ _ aJ
   ·cbv;obtain rfl:=oj h;exact hK _ _ aJ
  ·cbv;obtain rfl:=oj h;exact hK _ _ aJ
 ·cbv;refine .g h (fun (v1:Bool)=>[.top,.top,.ptr 0 0,.ptr 1 0]++rp 60 .top++[ob v1]++rp 77 .top) (fun v1=>[.cells [dq bC t_.Nodes,dq bJ t_.Leaves] 28,.cells [oi n.Attr,dq aH n.aI,dq aH n.Kids,oi n.Leaf] 50]) (fun y hm Kn1 aC=>?_) fun t h=>?_
  ·have h:=hm;clear hm;cbv;refine aG h ?_ ?_<;>intro h
   ·cbv;obtain rfl:=oj h;exact aC _ _ _ rfl (.nz (.aB [0,1] mx))
   ·cbv;refine aG h ?_ ?_<;>intro h
    ·cbv;obtain rfl:=oj h;exact aC _ _ _ rfl (.nz (.aB [0,1] mx))
    ·cbv;refine aG h ?_ ?_<;>intro h
     ·cbv;obtain rfl:=oj h;exact aC _ _ _ rfl (.nz (.aB [0,1] mx))
     ·cbv;refine aG h ?_ ?_<;>intro h
      ·cbv;obtain rfl:=oj h;exact aC _ _ _ rfl (.nz (.aB [0,1] mx))
      ·cbv;obtain rfl:=oj h;exact aC _ _ _ rfl (.nz (.aB [0,1] mx))
  obtain⟨v1,rfl⟩:=ez t;cbv;refine aG h ?_ ?_<;>intro h
  ·cbv;obtain rfl:=oj h;exact hK _ _ aJ
  ·cbv;refine .g h (fun ((Bg,xu):Int×Int)=>[.top,.top,.ptr 0 0,.ptr 1 0,.top,.ptr 2 0]++rp 136 .top) (fun (Bg,xu)=>[.cells [dq bC t_.Nodes,dq bJ t_.Leaves] 28,.cells [oi n.Attr,dq aH n.aI,dq aH n.Kids,oi n.Leaf] 50,.cells [oi Bg,oi xu] 52]) (fun y hm Kn1 aC=>?_) fun t h=>?_
   ·have h:=hm;clear hm;cbv;refine .g h (fun v hv=>Zp hP v hv) aJ rfl (fun _=>rfl) fun v4 h=>?_;cbv
    refine .c10 h ?_ ?_ ?_ ?_ ?_ ?_ ?_ ?_ ?_ ?_<;>(
     intro Ur h;cbv;obtain rfl:=oj h;exact aC _ _ _ rfl (.nz (.aB [0,1,2] mx))
     )
   obtain⟨Bg,xu⟩:=t;cbv;refine .ga h (fun (_:Unit)=>[.top,.top,.ptr 0 0,.ptr 1 0]++rp 138 .top) (fun _=>[.cells [dq bC t_.Nodes,dq bJ t_.Leaves] 28,.cells [oi n.Attr,dq aH n.aI,dq aH n.Kids,oi n.Leaf] 50]) (fun y hm hr1 Kn1 aC=>?_) fun t h=>?_
   ·have h:=hm;clear hm;cbv;refine .g h (fun ((Qw,v7):Int×Int)=>[.top,.top,.ptr 0 0,.ptr 1 0,.top,.ptr 2 0]++rp 64 .top++[dq aH n.aI,oi (io.len (W aH n.aI)),oi v7]++rp 69 .top) (fun (Qw,v7)=>[.cells [dq bC t_.Nodes,dq bJ t_.Leaves] 28,.cells [oi n.Attr,dq aH n.aI,dq aH n.Kids,oi n.Leaf] 50,.cells [oi Qw,oi xu] 52]) (.nz (.aB [0,1,2] ?_)) fun s x h hr2 Kn2 bg=>?_
    ·exact mx
    unfold Cj at h;obtain⟨Qw,v7⟩:=s;cbv;refine aG h ?_ ?_<;>intro h
    ·cbv;refine .g h (fun _=>rfl) fun x8 h=>?_;cbv;refine .g h (fun (v9:Bool)=>[.top,.top,.ptr 0 0,.ptr 1 0,.top,.ptr 2 0,.top,oi x8]++rp 62 .top++[dq aH n.aI,oi (io.len (W aH n.aI)),oi v7]++rp 12 .top++[ob v9]++rp 56 .top) (fun v9=>[.cells [dq bC t_.Nodes,dq bJ t_.Leaves] 28,.cells [oi n.Attr,dq aH n.aI,dq aH n.Kids,oi n.Leaf] 50,.cells [oi Qw,oi xu] 52]) (fun y hm Kn3 aP=>?_) fun t h=>?_
     ·have h:=hm;clear hm;cbv;refine aG h ?_ ?_<;>intro h
      ·cbv;obtain rfl:=oj h;exact aP _ _ _ rfl (.nz (.aB [0,1,2] mx))
      ·cbv;obtain rfl:=oj h;exact aP _ _ _ rfl (.nz (.aB [0,1,2] mx))
     obtain⟨v9,rfl⟩:=ez t;cbv;refine aG h ?_ ?_<;>intro h
     ·cbv;obtain rfl:=oj h;obtain rfl:=hr2 _ rfl;obtain rfl:=hr1 _ rfl;exact hK _ _ aJ
     ·cbv;obtain rfl:=oj h;exact bg _ _ _ rfl (.nz (.aB [0,1,2] mx))
    ·cbv;obtain rfl:=oj h;obtain rfl:=hr2 _ rfl;exact aC _ _ _ rfl (.nz (.aB [0,1] mx))
   cbv;refine .ga h (fun (_:Unit)=>rp 142 .top) (fun _=>[]) (fun y hm hr1 Kn1 aC=>?_) fun t h=>?_
   ·have h:=hm;clear hm;cbv;refine .g h (fun (v10:Int)=>[.top,.top,.ptr 0 0,.ptr 1 0]++rp 86 .top++[dq aH n.Kids,oi (io.len (W aH n.Kids)),oi v10]++rp 49 .top) (fun v10=>[.cells [dq bC t_.Nodes,dq bJ t_.Leaves] 28,.cells [oi n.Attr,dq aH n.aI,dq aH n.Kids,oi n.Leaf] 50]) (.nz (.aB [0,1] ?_)) fun s x h hr2 Kn2 bg=>?_
    ·exact mx
    unfold D9 at h;obtain⟨v10,rfl⟩:=ez s;cbv;refine aG h ?_ ?_<;>intro h
    ·cbv;refine .g h (fun _=>rfl) fun x11 h=>?_;cbv;refine .g h (fun (v12:Bool)=>[.top,.top,.ptr 0 0,.ptr 1 0]++rp 86 .top++[dq aH n.Kids,oi (io.len (W aH n.Kids)),oi v10]++rp 47 .top++[ob v12,.top]) (fun v12=>[.cells [dq bC t_.Nodes,dq bJ t_.Leaves] 28,.cells [oi n.Attr,dq aH n.aI,dq aH n.Kids,oi n.Leaf] 50]) (fun y hm Kn3 aP=>?_) fun t h=>?_
     ·have h:=hm;clear hm;cbv;refine aG h ?_ ?_<;>intro h
      ·cbv;obtain rfl:=oj h;exact aP _ _ _ rfl (.nz (.aB [0,1] mx))
      ·cbv;refine aG h ?_ ?_<;>intro h
       ·cbv;obtain rfl:=oj h;exact aP _ _ _ rfl (.nz (.aB [0,1] mx))
       ·cbv;refine aG h ?_ ?_<;>intro h
        ·cbv;refine .g h (fun _=>rfl) fun mF h=>?_;cbv;refine aG h ?_ ?_<;>intro h
         ·cbv;obtain rfl:=oj h;exact aP _ _ _ rfl (.nz (.aB [0,1] mx))
         ·cbv;refine .g h (fun _=>rfl) fun x14 h=>?_;cbv;refine aG h ?_ ?_<;>intro h
          ·cbv;refine .g h (fun _=>rfl) fun x15 h=>?_;cbv;obtain rfl:=oj h;exact aP _ _ _ rfl (.nz (.aB [0,1] mx))
          ·cbv;obtain rfl:=oj h;exact aP _ _ _ rfl (.nz (.aB [0,1] mx))
        ·cbv;refine .g h (fun _=>rfl) fun x16 h=>?_;cbv;refine aG h ?_ ?_<;>intro h
         ·cbv;refine .g h (fun _=>rfl) fun x17 h=>?_;cbv;obtain rfl:=oj h;exact aP _ _ _ rfl (.nz (.aB [0,1] mx))
         ·cbv;obtain rfl:=oj h;exact aP _ _ _ rfl (.nz (.aB [0,1] mx))
     obtain⟨v12,rfl⟩:=ez t;cbv;refine aG h ?_ ?_<;>intro h
     ·cbv;obtain rfl:=oj h;obtain rfl:=hr2 _ rfl;obtain rfl:=hr1 _ rfl;exact hK _ _ aJ
     ·cbv;obtain rfl:=oj h;exact bg _ _ _ rfl (.nz (.aB [0,1] mx))
    ·cbv;obtain rfl:=oj h;obtain rfl:=hr2 _ rfl;exact aC _ _ _ rfl (.nz (.aB [] mx))
   cbv;obtain rfl:=oj h;exact hK _ _ aJ
def fe3 : List ah:=[⟨(some 3),.mv 0,none⟩,⟨(some 4),.load 1 false 1,none⟩,⟨(some 5),.bin .eql 3 4,none⟩]
def fr3 : List ah:=[⟨(some 6),.load 1 false 1,none⟩,⟨(some 7),.bin .add 6 (ci 1),none⟩,⟨none,.store 1 1 7,none⟩]
def c41 : fJ:=⟨8,.seq (.reg fe3) (.cond 5 (.reg fr3) (.skip)),[]⟩
theorem ao2 : fD Tryz.prog 41=some c41.er:=by kernel_rfl
def ws3 : List ah:=[⟨(some 8),.load 1 false 1,none⟩,⟨(some 9),.mv 0,none⟩,⟨(some 10),.lI (.int .i64) false false (.bool false) 8 9,none⟩]
def wt3 : List ah:=[⟨(some 11),.load 1 false 1,none⟩,⟨(some 12),.mv 0,none⟩,⟨none,.lq (.int .i64) false 11 12 (cB true),none⟩]
def wl3 : List ah:=[⟨(some 13),.load 1 false 2,none⟩,⟨(some 14),.mv 0,none⟩,⟨(some 15),.fZ 13 [14],none⟩]
def wc3 : List ah:=[⟨(some 16),.load 1 false 3,none⟩,⟨(some 17),.mv 0,none⟩,⟨(some 18),.aQ 4 16 17,none⟩,⟨(some 19),.aj 2 18,none⟩,⟨(some 20),.load 1 false 19,none⟩,⟨(some 21),.len false 20,none⟩,⟨(some 22),.mv (ci 0),none⟩]
def wm3 : List ah:=[⟨(some 23),.bin .lss 22 21,none⟩]
def wh3 : List ah:=[⟨(some 24),.aQ 1 20 22,none⟩,⟨(some 25),.load 1 false 24,none⟩,⟨(some 7),.mv 25,none⟩]
def wp3 : List ah:=[⟨(some 26),.load 1 false 4,none⟩,⟨(some 27),.mv 7,none⟩,⟨(some 28),.fZ 26 [27],none⟩]
def wb3 : List ah:=[⟨(some 29),.bin .add 22 (ci 1),none⟩,⟨(some 22),.mv 29,none⟩]
def wn3 : DE:=.seq (.reg wm3) (.seq (.cond 23 (.skip) (.exit 0)) (.join (.block 1 (.seq (.reg wh3) (.reg wp3))) (.reg wb3)))
def c81 : fJ:=⟨30,.seq (.seq (.reg ws3) (.cond 10 (.ret) (.skip))) (.seq (.reg wt3) (.join (.reg wl3) (.seq (.reg wc3) (.block 0 (.loop wn3))))),[]⟩
theorem fb2 : fD Tryz.prog 81=some c81.er:=by kernel_rfl
set_option maxHeartbeats 8000000 in
theorem jj2 {P:Program}(hP:P=Tryz.prog)(nodes:(List Node))(rec:(Int->(List (Int×Bool))->Int->Option ((List (Int×Bool))×Int)))(at0:Int)(seen:(List (Int×Bool)))(fG:Int)(hrec:∀ at0 seen fG r,rec at0 seen fG=some r->dX P 81 [.cells [.hd 1] 134,.mp (.int .i64) false (WM (Value.int .i64) eB seen),.cells [.clo (.func 41) [] [.ptr 3 0]] 95,.cells [.d (.val (.int .i64 fG))] 3,.cells [dq bC nodes] 25,.cells [.clo (.func 81) [] [.ptr 0 0,.ptr 2 0,.ptr 4 0,.ptr 5 0]] 95] [.d (.val (.int .i64 at0)),.ptr 0 0,.ptr 2 0,.ptr 4 0,.ptr 5 0] (fun sv own'=>sv=.dO []/\own'=[.cells [.hd 1] 134,.mp (.int .i64) false (WM (Value.int .i64) eB r.1),.cells [.clo (.func 41) [] [.ptr 3 0]] 95,.cells [.d (.val (.int .i64 r.2))] 3,.cells [dq bC nodes] 25,.cells [.clo (.func 81) [] [.ptr 0 0,.ptr 2 0,.ptr 4 0,.ptr 5 0]] 95]))(r:(List (Int×Bool))×Int)(h:Pv nodes rec at0 seen fG=some r):dX P 81 [.cells [.hd 1] 134,.mp (.int .i64) false (WM (Value.int .i64) eB seen),.cells [.clo (.func 41) [] [.ptr 3 0]] 95,.cells [.d (.val (.int .i64 fG))] 3,.cells [dq bC nodes] 25,.cells [.clo (.func 81) [] [.ptr 0 0,.ptr 2 0,.ptr 4 0,.ptr 5 0]] 95] [.d (.val (.int .i64 at0)),.ptr 0 0,.ptr 2 0,.ptr 4 0,.ptr 5 0] (fun sv own'=>sv=.dO []/\own'=[.cells [.hd 1] 134,.mp (.int .i64) false (WM (Value.int .i64) eB r.1),.cells [.clo (.func 41) [] [.ptr 3 0]] 95,.cells [.d (.val (.int .i64 r.2))] 3,.cells [dq bC nodes] 25,.cells [.clo (.func 81) [] [.ptr 0 0,.ptr 2 0,.ptr 4 0,.ptr 5 0]] 95]):=by
 refine .OY 6 rfl (Nat.le_of_ble_eq_true rfl) (hP▸fb2) fun K hK=>?_;unfold Pv at h;cbv;refine .gi (e:=eB) h (by first|rfl|exact GK _ _) (fun h=>h) fun y1 h=>?_;cbv;refine aG h (fun h=>?_) (fun h=>?_)
 ·cbv;obtain rfl:=Option.some.inj h;refine hK _ _ [0,1,2,3,4,5] ?_;(cbv;repeat (refine⟨by first|rfl|exact zZ _|simp only[DZ]|simp only[IK],?_⟩;cbv))
 ·cbv;refine .gi (e:=eB) h (by first|rfl|exact GK _ _) (by first|rfl|exact zZ _|(cbv;simp only[DZ])) fun m2 h=>?_;cbv;refine .g h (fun (c3:Int)=>[.d (.val (.int .i64 at0)),.top,.top,.ptr 4 0,.ptr 5 0]++List.replicate 25 .top) (fun c3=>[.cells [.hd 1] 134,.mp (.int .i64) false (WM (Value.int .i64) eB m2),.cells [.clo (.func 41) [] [.ptr 3 0]] 95,.cells [.d (.val (.int .i64 c3))] 3,.cells [dq bC nodes] 25,.cells [.clo (.func 81) [] [.ptr 0 0,.ptr 2 0,.ptr 4 0,.ptr 5 0]] 95]) (fun y hm Kn1 aC=>?_) fun t h=>?_
  ·have h:=hm;clear hm;cbv;refine .inl (hP▸ao2) ?_;cbv;refine aG h (fun h=>?_) (fun h=>?_)
   ·cbv;obtain rfl:=Option.some.inj h;refine aC _ _ _ rfl (.nz (.aB [0,1,2,3,4,5] ?_));(cbv;repeat (refine⟨by first|rfl|exact zZ _|simp only[DZ]|simp only[IK],?_⟩;cbv))
   ·cbv;obtain rfl:=Option.some.inj h;refine aC _ _ _ rfl (.nz (.aB [0,1,2,3,4,5] ?_));(cbv;repeat (refine⟨by first|rfl|exact zZ _|simp only[DZ]|simp only[IK],?_⟩;cbv))
  obtain⟨c3,rfl⟩:=ez t;cbv;refine .g h (fun _=>rfl) fun x4 h=>?_;cbv;refine .g h (fun ((CW,c6,v7):(List (Int×Bool))×Int×Int)=>List.replicate 4 .top++[.ptr 5 0]++List.replicate 15 .top++[dq aH x4.Kids,.d (.val (.int .i64 (io.len (W aH x4.Kids)))),.d (.val (.int .i64 v7))]++List.replicate 7 .top) (fun (CW,c6,v7)=>[.cells [.hd 1] 134,.mp (.int .i64) false (WM (Value.int .i64) eB CW),.cells [.clo (.func 41) [] [.ptr 3 0]] 95,.cells [.d (.val (.int .i64 c6))] 3,.cells [dq bC nodes] 25,.cells [.clo (.func 81) [] [.ptr 0 0,.ptr 2 0,.ptr 4 0,.ptr 5 0]] 95]) (.nz (.aB [0,1,2,3,4,5] ?_)) fun s x h hr1 Kn1 aC=>?_
  ·(cbv;repeat (refine⟨by first|rfl|exact zZ _|simp only[DZ]|simp only[IK],?_⟩;cbv))
  unfold RH at h;obtain⟨CW,c6,v7⟩:=s;cbv;refine aG h (fun h=>?_) (fun h=>?_)
  ·cbv;refine .g h (fun ((Ej,c9):(List (Int×Bool))×Int)=>List.replicate 4 .top++[.ptr 5 0]++List.replicate 15 .top++[dq aH x4.Kids,.d (.val (.int .i64 (io.len (W aH x4.Kids)))),.d (.val (.int .i64 v7))]++List.replicate 7 .top) (fun (Ej,c9)=>[.cells [.hd 1] 134,.mp (.int .i64) false (WM (Value.int .i64) eB Ej),.cells [.clo (.func 41) [] [.ptr 3 0]] 95,.cells [.d (.val (.int .i64 c9))] 3,.cells [dq bC nodes] 25,.cells [.clo (.func 81) [] [.ptr 0 0,.ptr 2 0,.ptr 4 0,.ptr 5 0]] 95]) (fun y hm Kn2 bg=>?_) fun t h=>?_
   ·have h:=hm;clear hm;cbv;refine .g h (fun _=>rfl) fun x10 h=>?_;cbv;obtain⟨r11,hm,h⟩:=Option.bind_eq_some_iff.1 h;refine .DL [0,1,2,3,4,5] (hrec _ _ _ _ hm) (by (cbv;repeat (refine⟨by first|rfl|exact zZ _|simp only[DZ]|simp only[IK],?_⟩;cbv))) fun sv0 dG hq _=>?_;obtain⟨rfl,rfl⟩:=hq;clear hm;cbv;obtain rfl:=Option.some.inj h;refine bg _ _ _ rfl (.nz (.aB [0,1,2,3,4,5] ?_));(cbv;repeat (refine⟨by first|rfl|exact zZ _|simp only[DZ]|simp only[IK],?_⟩;cbv))
   obtain⟨Ej,c9⟩:=t;cbv;obtain rfl:=Option.some.inj h;refine aC _ _ _ rfl (.nz (.aB [0,1,2,3,4,5] ?_));(cbv;repeat (refine⟨by first|rfl|exact zZ _|simp only[DZ]|simp only[IK],?_⟩;cbv))
  ·cbv;obtain rfl:=Option.some.inj h;obtain rfl:=hr1 _ rfl;refine hK _ _ [0,1,2,3,4,5] ?_;(cbv;repeat (refine⟨by first|rfl|exact zZ _|simp only[DZ]|simp only[IK],?_⟩;cbv))
theorem wg1 {P:Program}(hP:P=Tryz.prog)(nodes:(List Node)):∀ (n:Nat)(at0:Int)(seen:(List (Int×Bool)))(fG:Int)(r:(List (Int×Bool))×Int),Lc nodes n at0 seen fG=some r->dX P 81 [.cells [.hd 1] 134,.mp (.int .i64) false (WM (Value.int .i64) eB seen),.cells [.clo (.func 41) [] [.ptr 3 0]] 95,.cells [.d (.val (.int .i64 fG))] 3,.cells [dq bC nodes] 25,.cells [.clo (.func 81) [] [.ptr 0 0,.ptr 2 0,.ptr 4 0,.ptr 5 0]] 95] [.d (.val (.int .i64 at0)),.ptr 0 0,.ptr 2 0,.ptr 4 0,.ptr 5 0] (fun sv own'=>sv=.dO []/\own'=[.cells [.hd 1] 134,.mp (.int .i64) false (WM (Value.int .i64) eB r.1),.cells [.clo (.func 41) [] [.ptr 3 0]] 95,.cells [.d (.val (.int .i64 r.2))] 3,.cells [dq bC nodes] 25,.cells [.clo (.func 81) [] [.ptr 0 0,.ptr 2 0,.ptr 4 0,.ptr 5 0]] 95])
 |0,_,_,_,_,h=>by cases h
 |n+1,at0,seen,fG,r,h=>jj2 hP nodes _ at0 seen fG (wg1 hP nodes n) r h
end Go.SX.Td
