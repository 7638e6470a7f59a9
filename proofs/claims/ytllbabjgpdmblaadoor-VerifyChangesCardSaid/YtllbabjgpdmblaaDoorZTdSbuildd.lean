/- Parts of the proof. -/
import Derived.Test.YtllbabjgpdmblaaDoorZTdT
import Derived.Test.YtllbabjgpdmblaaDoorZTdBuilder
import Derived.Test.YtllbabjgpdmblaaDoorZTdCompact
import Derived.Test.YtllbabjgpdmblaaDoorZTdKey
import Derived.Test.YtllbabjgpdmblaaDoorZTd32d
set_option linter.unusedSimpArgs false
set_option linter.unusedVariables false
set_option linter.unusedSectionVars false
namespace Go.SX.Td
open Go Go.SX Go.Proofs
set_option maxRecDepth 100000
noncomputable def tbuild_l14 (v31:(A2 Int))(attr:Int)(limits:(A10 Range)):((List Int)×Int)→Option (((List Int)×Int) ⊕ ((List Int)))
 | (starts35,v36) =>
  bif (io.lt v36 2) then (
   Option.bind (
    Option.bind (
     Option.bind (pixG 2 v36) fun i39 =>
     some (v31.get i39)
     ) fun c38 =>
    Option.bind (
     Option.bind (pixG 10 attr) fun i41 =>
     bif (io.lt (limits.get i41).Lo c38) then (
      some (io.le c38 (limits.get i41).Hi)
     ) else (
      some false
     )
     ) fun v40 =>
    bif v40 then (
     Option.bind (some [c38]) fun l42 =>
     Option.bind (appG starts35 l42) fun starts43 =>
     some starts43
    ) else (
     some starts35
    )
    ) fun starts37 =>
   some (.inl (starts37,(io.ar .add .i64 v36 1)))
  ) else (
   some (.inr starts35)
  )
noncomputable def tbuild_l12 (live:(List Int))(zones:(List (A10 Range)))(attr:Int)(limits:(A10 Range)):((List Int)×Int)→Option (((List Int)×Int) ⊕ ((List Int)))
 | (starts27,v28) =>
  bif (io.lt v28 (io.len (W eIi64 live))) then (
   Option.bind (
    Option.bind (idxG live v28) fun x30 =>
    Option.bind (
     Option.bind (idxG zones x30) fun x32 =>
     Option.bind (pixG 10 attr) fun i33 =>
     Option.bind (idxG zones x30) fun x34 =>
     some (A2.mk (x32.get i33).Lo (io.ar .add .i64 (x34.get i33).Hi 1))
     ) fun v31 =>
    whileG (tbuild_l14 v31 attr limits) (starts27,0)
    ) fun starts29 =>
   some (.inl (starts29,(io.ar .add .i64 v28 1)))
  ) else (
   some (.inr starts27)
  )
noncomputable def tbuild_l40 (live:(List Int))(zones:(List (A10 Range)))(attr:Int)(x73:Int):((List Int)×Int)→Option (((List Int)×Int) ⊕ ((List Int)))
 | (next77,v78) =>
  bif (io.lt v78 (io.len (W eIi64 live))) then (
   Option.bind (
    Option.bind (idxG live v78) fun x80 =>
    Option.bind (
     Option.bind (idxG zones x80) fun x83 =>
     Option.bind (pixG 10 attr) fun i84 =>
     some ((x83.get i84).Lo,(x83.get i84).Hi)
     ) fun (Lo81,Hi82) =>
    Option.bind (
     bif (io.le Lo81 x73) then (
      some (io.le x73 Hi82)
     ) else (
      some false
     )
     ) fun v85 =>
    bif v85 then (
     Option.bind (some [x80]) fun l86 =>
     Option.bind (appG next77 l86) fun next87 =>
     some next87
    ) else (
     some next77
    )
    ) fun next79 =>
   some (.inl (next79,(io.ar .add .i64 v78 1)))
  ) else (
   some (.inr next77)
  )
noncomputable def tbuild_l36 (v54:Int)(v53:(List Int))(attr:Int)(live:(List Int))(zones:(List (A10 Range)))(rec:(Int→(List Int)→(A10 Int)→(List Node)→(List Decision)→(List (ByteArray×Int))→(List (ByteArray×Int))→(List (Decision×Int))→Option (Int×(List Node)×(List Decision)×(List (ByteArray×Int))×(List (ByteArray×Int))×(List (Decision×Int))))):((List Node)×(List Decision)×(List (ByteArray×Int))×(List (ByteArray×Int))×(List (Decision×Int))×(A10 Int)×(List Int)×(List Int)×Int)→Option (((List Node)×(List Decision)×(List (ByteArray×Int))×(List (ByteArray×Int))×(List (Decision×Int))×(A10 Int)×(List Int)×(List Int)×Int) ⊕ ((List Node)×(List Decision)×(List (ByteArray×Int))×(List (ByteArray×Int))×(List (Decision×Int))×(List Int)×(List Int)))
 | (nodes56,leaves57,own58,own59,own60,f61,Cuts62,Kids63,v64) =>
  bif (io.lt v64 v54) then (
   Option.bind (
    Option.bind (idxG v53 v64) fun x73 =>
    Option.bind (
     Option.bind (pixG 10 attr) fun i75 =>
     some (f61.put i75 x73)
     ) fun f74 =>
    Option.bind (
     whileG (tbuild_l40 live zones attr x73) ([],0)
     ) fun next76 =>
    Option.bind (
     Option.bind (rec (io.ar .add .i64 attr 1) next76 f74 nodes56 leaves57 own58 own59 own60) fun r94 =>
     some (r94.2.1,r94.2.2.1,r94.2.2.2.1,r94.2.2.2.2.1,r94.2.2.2.2.2,r94.1)
     ) fun (nodes88,leaves89,own90,own91,own92,kid93) =>
    Option.bind (
     bif (io.lt 0 v64) then (
      Option.bind (rixG Kids63 (io.ar .sub .i64 (io.len (W eIi64 Kids63)) 1)) fun i96 =>
      Option.bind (Kids63[i96]?) fun v97 =>
      some (io.eq v97 kid93)
     ) else (
      some false
     )
     ) fun v95 =>
    bif v95 then (
     some (nodes88,leaves89,own90,own91,own92,f74,Cuts62,Kids63)
    ) else (
     Option.bind (
      bif (io.lt 0 v64) then (
       Option.bind (some [x73]) fun l99 =>
       Option.bind (appG Cuts62 l99) fun l100 =>
       some l100
      ) else (
       some Cuts62
      )
      ) fun Cuts98 =>
     Option.bind (some [kid93]) fun l101 =>
     Option.bind (appG Kids63 l101) fun l102 =>
     some (nodes88,leaves89,own90,own91,own92,f74,Cuts98,l102)
    )
    ) fun (nodes65,leaves66,own67,own68,own69,f70,Cuts71,Kids72) =>
   some (.inl (nodes65,leaves66,own67,own68,own69,f70,Cuts71,Kids72,(io.ar .add .i64 v64 1)))
  ) else (
   some (.inr (nodes56,leaves57,own58,own59,own60,Cuts62,Kids63))
  )
noncomputable def tbuild_b (rules:(List Rule))(limits:(A10 Range))(zones:(List (A10 Range)))(rec:(Int→(List Int)→(A10 Int)→(List Node)→(List Decision)→(List (ByteArray×Int))→(List (ByteArray×Int))→(List (Decision×Int))→Option (Int×(List Node)×(List Decision)×(List (ByteArray×Int))×(List (ByteArray×Int))×(List (Decision×Int)))))(attr:Int)(live:(List Int))(f:(A10 Int))(nodes:(List Node))(leaves:(List Decision))(kn:(List (ByteArray×Int)))(made:(List (ByteArray×Int)))(leaf:(List (Decision×Int))):Option (Int×(List Node)×(List Decision)×(List (ByteArray×Int))×(List (ByteArray×Int))×(List (Decision×Int))) :=
 bif (io.eq attr 10) then (
  Option.bind (decide_Decide_g (Policy.mk rules) f) fun v1 =>
  Option.bind (
   optG (mlook leaf v1) (fun y4 =>
    bif (io.not true) then (
     Option.bind (some (mputG leaf v1 (io.len (W eDecision leaves)))) fun m5 =>
     Option.bind (some [v1]) fun l6 =>
     Option.bind (appG leaves l6) fun l7 =>
     some (l7,m5)
    ) else (
     some (leaves,leaf)
    )
   ) (
    bif (io.not false) then (
     Option.bind (some (mputG leaf v1 (io.len (W eDecision leaves)))) fun m8 =>
     Option.bind (some [v1]) fun l9 =>
     Option.bind (appG leaves l9) fun l10 =>
     some (l10,m8)
    ) else (
     some (leaves,leaf)
    )
   )
   ) fun (leaves2,own3) =>
  Option.bind (some (mlookD own3 v1 0)) fun y11 =>
  Option.bind (some [0,y11]) fun l12 =>
  Option.bind (some [[],[],l12]) fun l13 =>
  Option.bind (table_text_g l13) fun v14 =>
  optG (mlook kn v14) (fun y15 =>
   some (y15,nodes,leaves2,kn,made,own3)
  ) (
   Option.bind (some [(Node.mk 0 [] [] y11)]) fun l16 =>
   Option.bind (appG nodes l16) fun l17 =>
   Option.bind (some (mputG kn v14 (io.ar .sub .i64 (io.len (W eNode l17)) 1))) fun m18 =>
   some ((io.ar .sub .i64 (io.len (W eNode l17)) 1),l17,leaves2,m18,made,own3)
  )
 ) else (
  Option.bind (some [attr]) fun l19 =>
  Option.bind (some [live,l19]) fun l20 =>
  Option.bind (table_text_g l20) fun key21 =>
  optG (mlook made key21) (fun y22 =>
   Option.bind (
    some ()
    ) fun _ =>
   some (y22,nodes,leaves,kn,made,leaf)
  ) (
   Option.bind (
    some ()
    ) fun _ =>
   bif (io.lt 20000 (io.len (W eNode nodes))) then (
    some (0,nodes,leaves,kn,made,leaf)
   ) else (
    Option.bind (
     Option.bind (pixG 10 attr) fun i24 =>
     Option.bind (some [(limits.get i24).Lo]) fun starts25 =>
     some starts25
     ) fun starts23 =>
    Option.bind (
     whileG (tbuild_l12 live zones attr limits) (starts23,0)
     ) fun starts26 =>
    Option.bind (
     Option.bind (sortG starts26) fun l45 =>
     some l45
     ) fun starts44 =>
    Option.bind (
     Option.bind (
      Option.bind (compG starts44) fun l55 =>
      some (l55,(io.len (W eIi64 l55)))
      ) fun (v53,v54) =>
     whileG (tbuild_l36 v54 v53 attr live zones rec) (nodes,leaves,kn,made,leaf,f,[],[],0)
     ) fun (nodes46,leaves47,own48,own49,own50,Cuts51,Kids52) =>
    Option.bind (rixG Kids52 0) fun i103 =>
    Option.bind (Kids52[i103]?) fun v104 =>
    Option.bind (
     bif (io.lt 1 (io.len (W eIi64 Kids52))) then (
      Option.bind (some [attr,0]) fun l108 =>
      Option.bind (some [Cuts51,Kids52,l108]) fun l109 =>
      Option.bind (table_text_g l109) fun v110 =>
      optG (mlook own48 v110) (fun y111 =>
       some (nodes46,own48,y111)
      ) (
       Option.bind (some [(Node.mk attr Cuts51 Kids52 0)]) fun l112 =>
       Option.bind (appG nodes46 l112) fun l113 =>
       Option.bind (some (mputG own48 v110 (io.ar .sub .i64 (io.len (W eNode l113)) 1))) fun m114 =>
       some (l113,m114,(io.ar .sub .i64 (io.len (W eNode l113)) 1))
      )
     ) else (
      some (nodes46,own48,v104)
     )
     ) fun (nodes105,own106,out107) =>
    Option.bind (some (mputG own49 key21 out107)) fun m115 =>
    some (out107,nodes105,leaves47,own106,m115,own50)
   )
  )
 )
noncomputable def tbuild (rules:(List Rule))(limits:(A10 Range))(zones:(List (A10 Range))):Nat→Int→(List Int)→(A10 Int)→(List Node)→(List Decision)→(List (ByteArray×Int))→(List (ByteArray×Int))→(List (Decision×Int))→Option (Int×(List Node)×(List Decision)×(List (ByteArray×Int))×(List (ByteArray×Int))×(List (Decision×Int)))
 | 0,_,_,_,_,_,_,_,_=>none
 | n+1,attr,live,f,nodes,leaves,kn,made,leaf=>tbuild_b rules limits zones (tbuild rules limits zones n) attr live f nodes leaves kn made leaf
end Go.SX.Td
namespace Go.SX.Td
open Go Go.SX Go.Proofs
set_option maxRecDepth 100000
noncomputable def walkT_l1 (v9:Node)(rec:(Int→(List (Int×Bool))→(List Int)→(List (Int×Int))→Option ((List (Int×Bool))×(List Int)×(List (Int×Int))))):((List (Int×Bool))×(List Int)×(List (Int×Int))×Int)→Option (((List (Int×Bool))×(List Int)×(List (Int×Int))×Int) ⊕ ((List (Int×Bool))×(List Int)×(List (Int×Int))))
 | (own10,c11,own12,v13) =>
  bif (io.lt v13 (io.len (W eIi64 v9.Kids))) then (
   Option.bind (
    Option.bind (idxG v9.Kids v13) fun x17 =>
    Option.bind (rec x17 own10 c11 own12) fun r18 =>
    some (r18.1,r18.2.1,r18.2.2)
    ) fun (own14,c15,own16) =>
   some (.inl (own14,c15,own16,(io.ar .add .i64 v13 1)))
  ) else (
   some (.inr (own10,c11,own12))
  )
noncomputable def walkT_b (nodes:(List Node))(rec:(Int→(List (Int×Bool))→(List Int)→(List (Int×Int))→Option ((List (Int×Bool))×(List Int)×(List (Int×Int)))))(at0:Int)(seen:(List (Int×Bool)))(ord:(List Int))(number:(List (Int×Int))):Option ((List (Int×Bool))×(List Int)×(List (Int×Int))) :=
 Option.bind (some (mlookD seen at0 false)) fun y1 =>
 bif y1 then (
  some (seen,ord,number)
 ) else (
  Option.bind (some (mputG seen at0 true)) fun m2 =>
  Option.bind (
   Option.bind (some (mputG number at0 (io.len (W eIi64 ord)))) fun m5 =>
   Option.bind (some [at0]) fun l6 =>
   Option.bind (appG ord l6) fun l7 =>
   some (l7,m5)
   ) fun (c3,own4) =>
  Option.bind (rixG nodes at0) fun ix8 =>
  Option.bind (nodes[ix8]?) fun v9 =>
  whileG (walkT_l1 v9 rec) (m2,c3,own4,0)
 )
noncomputable def walkT (nodes:(List Node)):Nat→Int→(List (Int×Bool))→(List Int)→(List (Int×Int))→Option ((List (Int×Bool))×(List Int)×(List (Int×Int)))
 | 0,_,_,_,_=>none
 | n+1,at0,seen,ord,number=>walkT_b nodes (walkT nodes n) at0 seen ord number
end Go.SX.Td
namespace Go.SX.Td
open Go Go.SX Go.Proofs
set_option maxRecDepth 100000
noncomputable def table_Build_l2 (p:Policy):((List (A10 Range))×Int)→Option (((List (A10 Range))×Int) ⊕ ((List (A10 Range))))
 | (zones4,v5) =>
 bif (io.lt v5 (io.len (W eRule p.Rules))) then (
 Option.bind (idxG p.Rules v5) fun x6 =>
 Option.bind (appG zones4 x6.Zones) fun l7 =>
 some (.inl (l7,(io.ar .add .i64 v5 1)))
 ) else (
 some (.inr zones4)
 )
noncomputable def table_Build_l4 (l8:(List Int)):((List Int)×Int)→Option (((List Int)×Int) ⊕ ((List Int)))
 | (all10,v11) =>
 bif (io.lt v11 (io.len (W eIi64 l8))) then (
 Option.bind (rixG all10 v11) fun i12 =>
 Option.bind (updG all10 i12 fun y13=>v11) fun l14 =>
 some (.inl (l14,(io.ar .add .i64 v11 1)))
 ) else (
 some (.inr all10)
 )
noncomputable def table_Build_l30 (v35:Node)(number22:(List (Int×Int))):((List Int)×Int)→Option (((List Int)×Int) ⊕ ((List Int)))
 | (Kids42,v43) =>
 bif (io.lt v43 (io.len (W eIi64 v35.Kids))) then (
 Option.bind (idxG v35.Kids v43) fun x44 =>
 Option.bind (some (mlookD number22 x44 0)) fun y45 =>
 Option.bind (some [y45]) fun l46 =>
 Option.bind (appG Kids42 l46) fun l47 =>
 some (.inl (l47,(io.ar .add .i64 v43 1)))
 ) else (
 some (.inr Kids42)
 )
noncomputable def table_Build_l26 (order23:(List Int))(nodes15:(List Node))(leaves16:(List Decision))(number22:(List (Int×Int))):((List Node)×(List Decision)×Int)→Option (((List Node)×(List Decision)×Int) ⊕ ((List Node)×(List Decision)))
 | (Nodes27,Leaves28,v29) =>
 bif (io.lt v29 (io.len (W eIi64 order23))) then (
 Option.bind (
 Option.bind (rixG order23 v29) fun ix32 =>
 Option.bind (order23[ix32]?) fun v33 =>
 Option.bind (rixG nodes15 v33) fun i34 =>
 Option.bind (nodes15[i34]?) fun v35 =>
 Option.bind (
 bif (io.eq (io.len (W eIi64 v35.Kids)) 0) then (
 Option.bind (idxG leaves16 v35.Leaf) fun x38 =>
 Option.bind (some [x38]) fun l39 =>
 Option.bind (appG Leaves28 l39) fun l40 =>
 some (l40,(io.ar .sub .i64 (io.len (W eDecision l40)) 1))
 ) else (
 some (Leaves28,v35.Leaf)
 )
 ) fun (Leaves36,Leaf37) =>
 Option.bind (
 whileG (table_Build_l30 v35 number22) ([],0)
 ) fun Kids41 =>
 Option.bind (some [(Node.mk v35.Attr v35.Cuts Kids41 Leaf37)]) fun l48 =>
 Option.bind (appG Nodes27 l48) fun l49 =>
 some (l49,Leaves36)
 ) fun (Nodes30,Leaves31) =>
 some (.inl (Nodes30,Leaves31,(io.ar .add .i64 v29 1)))
 ) else (
 some (.inr (Nodes27,Leaves28))
 )
noncomputable def table_Build_g (p:Policy):Option (Table×Int) :=
 Option.bind (decide_Valid_g p) fun v1 =>
 bif (io.not v1) then (
 some ((Table.mk [] []),1)
 ) else (
 Option.bind (resolve_Limits_g) fun v2 =>
 Option.bind (
 whileG (table_Build_l2 p) ([],0)
 ) fun zones3 =>
 Option.bind (mksG (io.len (W eA10Range zones3)) (0:Int)) fun l8 =>
 Option.bind (
 whileG (table_Build_l4 l8) (l8,0)
 ) fun all9 =>
 Option.bind (
 Option.bind (tbuild p.Rules v2 zones3 11 0 all9 (A10.mk 0 0 0 0 0 0 0 0 0 0) ([]:(List Node)) ([]:(List Decision)) ([]:(List (ByteArray×Int))) ([]:(List (ByteArray×Int))) ([]:(List (Decision×Int)))) fun r21 =>
 some (r21.2.1,r21.2.2.1,r21.2.2.2.1,r21.2.2.2.2.1,r21.2.2.2.2.2,r21.1)
 ) fun (nodes15,leaves16,known17,made18,leaf19,root20) =>
 bif (io.lt 20000 (io.len (W eNode nodes15))) then (
 some ((Table.mk [] []),3)
 ) else (
 Option.bind (
 Option.bind (walkT nodes15 11 root20 ([]:(List (Int×Bool))) ([]:(List Int)) ([]:(List (Int×Int)))) fun r24 =>
 some (r24.2.2,r24.2.1)
 ) fun (number22,order23) =>
 Option.bind (
 whileG (table_Build_l26 order23 nodes15 leaves16 number22) ([],[],0)
 ) fun (Nodes25,Leaves26) =>
 some ((Table.mk Nodes25 Leaves26),0)
 )
 )
end Go.SX.Td
namespace Go.SX.Td
open Go Go.SX Go.Proofs
set_option maxRecDepth 100000
noncomputable def ref11_Ints_l2 (a:(List Int))(b:(List Int)):Int→Option ((Int) ⊕ ((Unit) ⊕ (Bool)))
 | i1 =>
 bif (io.lt i1 (io.len (W eIi64 a))) then (
 Option.bind (idxG a i1) fun x2 =>
 Option.bind (idxG b i1) fun x3 =>
 bif (io.not (io.eq x2 x3)) then (
 some (.inr (.inr false))
 ) else (
 some (.inl (io.ar .add .i64 i1 1))
 )
 ) else (
 some (.inr (.inl ()))
 )
noncomputable def ref11_Ints_g (a:(List Int))(b:(List Int)):Option (Bool) :=
 bif (io.not (io.eq (io.len (W eIi64 a)) (io.len (W eIi64 b)))) then (
 some false
 ) else (
 orR (
 whileG (ref11_Ints_l2 a b) 0
 ) fun _ =>
 some true
 )
end Go.SX.Td
namespace Go.SX.Td
open Go Go.SX Go.Proofs
set_option maxRecDepth 100000
noncomputable def ref14_Equal_g (a:Node)(b:Node):Option (Bool) :=
 bif (io.eq a.Attr b.Attr) then (
 bif (io.eq a.Leaf b.Leaf) then (
 Option.bind (ref11_Ints_g a.Cuts b.Cuts) fun v1 =>
 bif v1 then (
 Option.bind (ref11_Ints_g a.Kids b.Kids) fun v2 =>
 some v2
 ) else (
 some false
 )
 ) else (
 some false
 )
 ) else (
 some false
 )
end Go.SX.Td
namespace Go.SX.Td
open Go Go.SX Go.Proofs
set_option maxRecDepth 100000
noncomputable def ref14_Same_l2 (a:Table)(b:Table):Int→Option ((Int) ⊕ ((Unit) ⊕ (Bool)))
 | i2 =>
 bif (io.lt i2 (io.len (W eNode a.Nodes))) then (
 Option.bind (idxG a.Nodes i2) fun x3 =>
 Option.bind (idxG b.Nodes i2) fun x4 =>
 Option.bind (ref14_Equal_g x3 x4) fun v5 =>
 bif (io.not v5) then (
 some (.inr (.inr false))
 ) else (
 some (.inl (io.ar .add .i64 i2 1))
 )
 ) else (
 some (.inr (.inl ()))
 )
noncomputable def ref14_Same_l4 (a:Table)(b:Table):Int→Option ((Int) ⊕ ((Unit) ⊕ (Bool)))
 | i6 =>
 bif (io.lt i6 (io.len (W eDecision a.Leaves))) then (
 Option.bind (idxG a.Leaves i6) fun x7 =>
 Option.bind (idxG b.Leaves i6) fun x8 =>
 bif (io.not (qDecision x7 x8)) then (
 some (.inr (.inr false))
 ) else (
 some (.inl (io.ar .add .i64 i6 1))
 )
 ) else (
 some (.inr (.inl ()))
 )
noncomputable def ref14_Same_g (a:Table)(b:Table):Option (Bool) :=
 Option.bind (
 bif (io.not (io.eq (io.len (W eNode a.Nodes)) (io.len (W eNode b.Nodes)))) then (
 some true
 ) else (
 some (io.not (io.eq (io.len (W eDecision a.Leaves)) (io.len (W eDecision b.Leaves))))
 )
 ) fun v1 =>
 bif v1 then (
 some false
 ) else (
 orR (
 whileG (ref14_Same_l2 a b) 0
 ) fun _ =>
 orR (
 whileG (ref14_Same_l4 a b) 0
 ) fun _ =>
 some true
 )
end Go.SX.Td
namespace Go.SX.Td
open Go Go.SX Go.Proofs
set_option maxRecDepth 100000
noncomputable def law15_VerifyCompiler_g (p:Policy)(t_:Table):Option (Bool) :=
 Option.bind (law15_head_g) fun up1 =>
 Option.bind (law15_few_g p t_) fun v2 =>
 bif (io.not v2) then (
 some up1
 ) else (
 Option.bind (table_Build_g p) fun v3 =>
 bif (io.not (io.eq v3.2 0)) then (
 bif up1 then (
 bif (io.eq v3.2 3) then (
 some true
 ) else (
 Option.bind (decide_Valid_g p) fun v4 =>
 some (io.not v4)
 )
 ) else (
 some false
 )
 ) else (
 Option.bind (verify_Differ_g p v3.1) fun v5 =>
 Option.bind (verify_Differ_g p t_) fun v6 =>
 bif up1 then (
 bif (io.not v5.2) then (
 Option.bind (ref14_Same_g v3.1 t_) fun v7 =>
 some (io.beq true v6.2 v7)
 ) else (
 some false
 )
 ) else (
 some false
 )
 )
 )
end Go.SX.Td
namespace Go.SX.Td
open Go Go.SX Go.Proofs
set_option maxRecDepth 100000
def c60r0 : List GOp:=[
 gv 2 (.box 34 (.tmp 0)),
 gv 4 (.mv (.const (.bool false)))]
def c60r1 : List GOp:=[
 gv 5 (.fadd 1 (.tmp 2)),
 gv 6 (.load 1 false (.tmp 5)),
 gv 7 (.bin .geq (.tmp 6) (.const (.int .i64 1))),
 gv 8 (.mv (.tmp 7)),
 gw 9 8 true (.fadd 1 (.tmp 2)),
 gw 10 8 true (.load 1 false (.tmp 9)),
 gw 11 8 true (.bin .leq (.tmp 10) (.const (.int .i64 1000000))),
 gv 12 (.pick (.tmp 8) (.tmp 11) (.const (.bool false))),
 gv 13 (.mv (.tmp 12)),
 gw 14 13 true (.fadd 0 (.tmp 2)),
 gw 15 13 true (.load 1 false (.tmp 14)),
 gw 16 13 true (.bin .geq (.tmp 15) (.const (.int .i64 0))),
 gv 17 (.pick (.tmp 13) (.tmp 16) (.const (.bool false))),
 gv 18 (.mv (.tmp 17)),
 gw 19 18 true (.fadd 0 (.tmp 2)),
 gw 20 18 true (.load 1 false (.tmp 19)),
 gw 21 18 true (.mv (.tmp 1)),
 gw 22 18 true (.fadd 1 (.tmp 2)),
 gw 23 18 true (.load 1 false (.tmp 22)),
 gw 24 18 true (.bin .mul (.tmp 21) (.tmp 23)),
 gw 25 18 true (.bin .leq (.tmp 20) (.tmp 24)),
 gv 26 (.pick (.tmp 18) (.tmp 25) (.const (.bool false))),
 gv 27 (.mv (.tmp 26)),
 gw 28 27 true (.fadd 0 (.tmp 2)),
 gw 29 27 true (.load 1 false (.tmp 28)),
 gw 30 27 true (.bin .leq (.tmp 29) (.const (.int .i64 1000000))),
 gv 31 (.pick (.tmp 27) (.tmp 30) (.const (.bool false))),
 gv 4 (.mv (.tmp 31))]
def c60 : EFn:=⟨32,.seq (.reg c60r0) (.seq (.reg c60r1) (.ret)),[.tmp 4]⟩
theorem c60_ok : compF Tryd.prog 60=some c60.er:=by kernel_rfl
def c32r0 : List GOp:=[
 gv 1 (.box 36 (.tmp 0)),
 gv 2 (.mv (.const (.bool false)))]
def c32r1 : List GOp:=[
 gv 3 (.fadd 0 (.tmp 1)),
 gv 4 (.load 1 false (.tmp 3))]
def c32r2 : List GOp:=[
 gv 6 (.bin .eql (.tmp 4) (.const (.int .i64 1))),
 gv 5 (.mv (.tmp 6))]
def c32r3 : List GOp:=[
 gv 7 (.fadd 3 (.tmp 1)),
 gv 8 (.load 1 false (.tmp 7)),
 gv 9 (.bin .geq (.tmp 8) (.const (.int .i64 0))),
 gv 10 (.mv (.tmp 9)),
 gw 11 10 true (.fadd 3 (.tmp 1)),
 gw 12 10 true (.load 1 false (.tmp 11)),
 gw 13 10 true (.bin .leq (.tmp 12) (.const (.int .i64 100))),
 gv 14 (.pick (.tmp 10) (.tmp 13) (.const (.bool false))),
 gv 2 (.mv (.tmp 14))]
def c32r4 : List GOp:=[
 gv 16 (.bin .eql (.tmp 4) (.const (.int .i64 3))),
 gv 15 (.mv (.tmp 16))]
def c32r5 : List GOp:=[
 gv 17 (.fadd 3 (.tmp 1)),
 gv 18 (.load 1 false (.tmp 17)),
 gv 19 (.bin .geq (.tmp 18) (.const (.int .i64 0))),
 gv 20 (.mv (.tmp 19)),
 gw 21 20 true (.fadd 3 (.tmp 1)),
 gw 22 20 true (.load 1 false (.tmp 21)),
 gw 23 20 true (.bin .leq (.tmp 22) (.const (.int .i64 10000000))),
 gv 24 (.pick (.tmp 20) (.tmp 23) (.const (.bool false))),
 gv 25 (.mv (.tmp 24)),
 gw 26 25 true (.fadd 4 (.tmp 1)),
 gw 27 25 true (.load 2 true (.tmp 26)),
 gw 28 25 true (.call 60 [(.tmp 27),(.const (.int .i64 1))]),
 gv 29 (.pick (.tmp 25) (.tmp 28) (.const (.bool false))),
 gv 30 (.mv (.tmp 29)),
 gw 31 30 true (.fadd 6 (.tmp 1)),
 gw 32 30 true (.load 2 true (.tmp 31)),
 gw 33 30 true (.call 60 [(.tmp 32),(.const (.int .i64 1))]),
 gv 34 (.pick (.tmp 30) (.tmp 33) (.const (.bool false))),
 gv 2 (.mv (.tmp 34))]
def c32r6 : List GOp:=[
 gv 36 (.bin .eql (.tmp 4) (.const (.int .i64 4))),
 gv 35 (.mv (.tmp 36))]
def c32r7 : List GOp:=[
 gv 37 (.fadd 4 (.tmp 1)),
 gv 38 (.load 2 true (.tmp 37)),
 gv 39 (.call 60 [(.tmp 38),(.const (.int .i64 10))]),
 gv 40 (.mv (.tmp 39)),
 gw 41 40 true (.fadd 6 (.tmp 1)),
 gw 42 40 true (.load 2 true (.tmp 41)),
 gw 43 40 true (.call 60 [(.tmp 42),(.const (.int .i64 1))]),
 gv 44 (.pick (.tmp 40) (.tmp 43) (.const (.bool false))),
 gv 2 (.mv (.tmp 44))]
def c32r8 : List GOp:=[
 gv 46 (.bin .eql (.tmp 4) (.const (.int .i64 5))),
 gv 45 (.mv (.tmp 46))]
def c32r9 : List GOp:=[
 gv 47 (.fadd 4 (.tmp 1)),
 gv 48 (.load 2 true (.tmp 47)),
 gv 49 (.call 60 [(.tmp 48),(.const (.int .i64 1))]),
 gv 2 (.mv (.tmp 49))]
def c32r10 : List GOp:=[
 gv 51 (.bin .eql (.tmp 4) (.const (.int .i64 2))),
 gv 50 (.mv (.tmp 51))]
def c32r11 : List GOp:=[
 gv 52 (.bin .eql (.tmp 4) (.const (.int .i64 6))),
 gv 50 (.mv (.tmp 52))]
def c32r12 : List GOp:=[
 gv 53 (.bin .eql (.tmp 4) (.const (.int .i64 7))),
 gv 50 (.mv (.tmp 53))]
def c32r13 : List GOp:=[
 gv 2 (.mv (.const (.bool true)))]
def c32r14 : List GOp:=[
 gv 2 (.mv (.const (.bool false)))]
def c32 : EFn:=⟨54,.seq (.reg c32r0) (.seq (.seq (.reg c32r1) (.block 0 (.seq (.reg c32r2) (.cond (.tmp 5) (.seq (.reg c32r3) (.ret)) (.seq (.reg c32r4) (.cond (.tmp 15) (.seq (.reg c32r5) (.ret)) (.seq (.reg c32r6) (.cond (.tmp 35) (.seq (.reg c32r7) (.ret)) (.seq (.reg c32r8) (.cond (.tmp 45) (.seq (.reg c32r9) (.ret)) (.join (.seq (.reg c32r10) (.cond (.tmp 50) (.skip) (.seq (.reg c32r11) (.cond (.tmp 50) (.skip) (.reg c32r12))))) (.cond (.tmp 50) (.seq (.reg c32r13) (.ret)) (.skip))))))))))))) (.seq (.reg c32r14) (.ret))),[.tmp 2]⟩
theorem c32_ok : compF Tryd.prog 32=some c32.er:=by kernel_rfl
set_option maxHeartbeats 4000000 in
theorem decide_numbers_R {P:Program}(hP:P=Tryd.prog)(r_:Rule)(r:Bool)(h:decide_numbers_g r_=some r):Fn1 P 32 [vRule r_] (vB r):=by
 refine .walkE (hP▸c32_ok) fun K hK=>?_;unfold decide_numbers_g at h;cbv;refine brkG h ?_ ?_<;>intro h
 ·cbv;refine brkG h ?_ ?_<;>intro h
  ·cbv;obtain rfl:=oj h;exact hK _ _ aw_
  ·cbv;obtain rfl:=oj h;exact hK _ _ aw_
 ·cbv;refine brkG h ?_ ?_<;>intro h
  ·cbv;refine brkG h ?_ ?_<;>intro h
   ·cbv;refine brkG h ?_ ?_<;>intro h
    ·cbv;refine .inl (hP▸c60_ok) ?_;cbv;refine brkG h ?_ ?_<;>intro h
     ·cbv;refine brkG h ?_ ?_<;>intro h
      ·cbv;refine brkG h ?_ ?_<;>intro h
       ·cbv;refine brkG h ?_ ?_<;>intro h
        ·cbv;refine brkG h ?_ ?_<;>intro h
         ·cbv;refine .inl (hP▸c60_ok) ?_;cbv;refine brkG h ?_ ?_<;>intro h
          ·cbv;refine brkG h ?_ ?_<;>intro h
           ·cbv;refine brkG h ?_ ?_<;>intro h
            ·cbv;refine brkG h ?_ ?_<;>intro h
             ·cbv;obtain rfl:=oj h;exact hK _ _ aw_
             ·cbv;obtain rfl:=oj h;exact hK _ _ aw_
            ·cbv;obtain rfl:=oj h;exact hK _ _ aw_
           ·cbv;obtain rfl:=oj h;exact hK _ _ aw_
          ·cbv;obtain rfl:=oj h;exact hK _ _ aw_
         ·cbv;obtain rfl:=oj h;exact hK _ _ aw_
        ·cbv;obtain rfl:=oj h;exact hK _ _ aw_
       ·cbv;obtain rfl:=oj h;exact hK _ _ aw_
      ·cbv;obtain rfl:=oj h;exact hK _ _ aw_
     ·cbv;obtain rfl:=oj h;exact hK _ _ aw_
    ·cbv;obtain rfl:=oj h;exact hK _ _ aw_
   ·cbv;obtain rfl:=oj h;exact hK _ _ aw_
  ·cbv;refine brkG h ?_ ?_<;>intro h
   ·cbv;refine .inl (hP▸c60_ok) ?_;cbv;refine brkG h ?_ ?_<;>intro h
    ·cbv;refine brkG h ?_ ?_<;>intro h
     ·cbv;refine brkG h ?_ ?_<;>intro h
      ·cbv;refine brkG h ?_ ?_<;>intro h
       ·cbv;refine brkG h ?_ ?_<;>intro h
        ·cbv;refine .inl (hP▸c60_ok) ?_;cbv;refine brkG h ?_ ?_<;>intro h
         ·cbv;refine brkG h ?_ ?_<;>intro h
          ·cbv;refine brkG h ?_ ?_<;>intro h
           ·cbv;refine brkG h ?_ ?_<;>intro h
            ·cbv;obtain rfl:=oj h;exact hK _ _ aw_
            ·cbv;obtain rfl:=oj h;exact hK _ _ aw_
           ·cbv;obtain rfl:=oj h;exact hK _ _ aw_
          ·cbv;obtain rfl:=oj h;exact hK _ _ aw_
         ·cbv;obtain rfl:=oj h;exact hK _ _ aw_
        ·cbv;obtain rfl:=oj h;exact hK _ _ aw_
       ·cbv;obtain rfl:=oj h;exact hK _ _ aw_
      ·cbv;obtain rfl:=oj h;exact hK _ _ aw_
     ·cbv;obtain rfl:=oj h;exact hK _ _ aw_
    ·cbv;obtain rfl:=oj h;exact hK _ _ aw_
   ·cbv;refine brkG h ?_ ?_<;>intro h
    ·cbv;refine .inl (hP▸c60_ok) ?_;cbv;refine brkG h ?_ ?_<;>intro h
     ·cbv;refine brkG h ?_ ?_<;>intro h
      ·cbv;refine brkG h ?_ ?_<;>intro h
       ·cbv;refine brkG h ?_ ?_<;>intro h
        ·cbv;obtain rfl:=oj h;exact hK _ _ aw_
        ·cbv;obtain rfl:=oj h;exact hK _ _ aw_
       ·cbv;obtain rfl:=oj h;exact hK _ _ aw_
      ·cbv;obtain rfl:=oj h;exact hK _ _ aw_
     ·cbv;obtain rfl:=oj h;exact hK _ _ aw_
    ·cbv;refine .g h (fun (v1:Bool)=>rp 50 .top++[ob v1]++rp 3 .top) (fun v1=>[]) (fun y hm Kn1 hKn1=>?_) fun t h=>?_
     ·have h:=hm;clear hm;cbv;refine brkG h ?_ ?_<;>intro h
      ·cbv;obtain rfl:=oj h;refine hKn1 _ _ _ rfl (.nz (.mtE [] ?_));(cbv;repeat (refine⟨an_,?_⟩;cbv))
      ·cbv;refine brkG h ?_ ?_<;>intro h
       ·cbv;obtain rfl:=oj h;refine hKn1 _ _ _ rfl (.nz (.mtE [] ?_));(cbv;repeat (refine⟨an_,?_⟩;cbv))
       ·cbv;obtain rfl:=oj h;refine hKn1 _ _ _ rfl (.nz (.mtE [] ?_));(cbv;repeat (refine⟨an_,?_⟩;cbv))
     obtain⟨v1,rfl⟩:=ez t;cbv;refine brkG h ?_ ?_<;>intro h
     ·cbv;obtain rfl:=oj h;exact hK _ _ aw_
     ·cbv;obtain rfl:=oj h;exact hK _ _ aw_
end Go.SX.Td
namespace Go.SX.Td
open Go Go.SX Go.Proofs
set_option maxRecDepth 100000
def c26r0 : List GOp:=[
 gv 0 (.alloc 57 (.agg #[oz,oz,oz,oz,oz,oz,oz,oz,oz,oz,oz,oz,oz,oz,oz,oz,oz,oz,oz,oz]))]
def c26r1 : List GOp:=[
 gv 1 (.build (.agg #[oz,oz]) [((1,1),(.const (.int .i64 1000000000)))]),
 gv 2 (.build (.agg #[oz,oz]) [((1,1),(.const (.int .i64 150)))]),
 gv 3 (.build (.agg #[oz,oz]) [((1,1),(.const (.int .i64 1)))]),
 gv 4 (.build (.agg #[oz,oz]) [((1,1),(.const (.int .i64 19)))]),
 gv 5 (.build (.agg #[oz,oz]) [((1,1),(.const (.int .i64 7)))]),
 gv 6 (.build (.agg #[oz,oz]) [((1,1),(.const (.int .i64 319)))]),
 gv 7 (.build (.agg #[oz,oz]) [((1,1),(.const (.int .i64 3)))]),
 gv 8 (.build (.agg #[oz,oz]) [((1,1),(.const (.int .i64 3)))]),
 gv 9 (.build (.agg #[oz,oz]) [((0,1),(.const (.int .i64 1))),((1,1),(.const (.int .i64 12)))]),
 gv 10 (.build (.agg #[oz,oz]) [((1,1),(.const (.int .i64 100)))]),
 gv 11 (.build (.agg #[oz,oz,oz,oz,oz,oz,oz,oz,oz,oz,oz,oz,oz,oz,oz,oz,oz,oz,oz,oz]) [((0,2),(.tmp 1)),((2,2),(.tmp 2)),((4,2),(.tmp 3)),((6,2),(.tmp 4)),((8,2),(.tmp 5)),((10,2),(.tmp 6)),((12,2),(.tmp 7)),((14,2),(.tmp 8)),((16,2),(.tmp 9)),((18,2),(.tmp 10))]),
 ⟨none,.store 20 (.tmp 0) (.tmp 11),none⟩]
def c26 : EFn:=⟨12,.seq (.reg c26r0) (.seq (.reg c26r1) (.ret)),[.cell 0 20 true]⟩
theorem c26_ok : compF Tryd.prog 26=some c26.er:=by kernel_rfl
set_option maxHeartbeats 4000000 in
theorem resolve_Limits_R {P:Program}(hP:P=Tryd.prog)(r:(A10 Range))(h:resolve_Limits_g=some r):Fn1 P 26 [] (vA10Range r):=by
 refine .walkE (hP▸c26_ok) fun K hK=>?_;unfold resolve_Limits_g at h;cbv;obtain rfl:=oj h;exact hK _ _ aw_
end Go.SX.Td
namespace Go.SX.Td
open Go Go.SX Go.Proofs
set_option maxRecDepth 100000
def c35r0 : List GOp:=[
 gv 1 (.box 57 (.tmp 0)),
 gv 2 (.mv (.const (.bool false)))]
def c35r1 : List GOp:=[
 gv 6 (.call 26 []),
 gv 3 (.alloc 57 (.agg #[oz,oz,oz,oz,oz,oz,oz,oz,oz,oz,oz,oz,oz,oz,oz,oz,oz,oz,oz,oz])),
 ⟨none,.store 20 (.tmp 3) (.tmp 6),none⟩]
def c35r2 : List GOp:=[
 gv 7 (.load 20 true (.tmp 1)),
 gv 8 (.mv (.const (.int .i64 0)))]
def c35r3 : List GOp:=[
 gv 9 (.bin .lss (.tmp 8) (.const (.int .i64 10)))]
def c35r4 : List GOp:=[
 gv 10 (.mv (.tmp 8)),
 gv 11 (.idxV 10 2 true (.tmp 7) (.tmp 8)),
 gv 5 (.alloc 55 (.agg #[oz,oz])),
 gv 4 (.mv (.tmp 10)),
 ⟨none,.store 2 (.tmp 5) (.tmp 11),none⟩]
def c35r5 : List GOp:=[
 gv 12 (.fadd 0 (.tmp 5)),
 gv 13 (.load 1 false (.tmp 12)),
 gv 14 (.fadd 1 (.tmp 5)),
 gv 15 (.load 1 false (.tmp 14)),
 gv 16 (.bin .gtr (.tmp 13) (.tmp 15)),
 gv 17 (.mv (.tmp 16)),
 gw 18 17 false (.fadd 0 (.tmp 5)),
 gw 19 17 false (.load 1 false (.tmp 18)),
 gw 20 17 false (.mv (.tmp 4)),
 gw 21 17 false (.idxP 10 2 (.tmp 3) (.tmp 20)),
 gw 22 17 false (.fadd 0 (.tmp 21)),
 gw 23 17 false (.load 1 false (.tmp 22)),
 gw 24 17 false (.bin .lss (.tmp 19) (.tmp 23)),
 gv 25 (.pick (.tmp 17) (.const (.bool true)) (.tmp 24)),
 gv 26 (.mv (.tmp 25)),
 gw 27 26 false (.fadd 1 (.tmp 5)),
 gw 28 26 false (.load 1 false (.tmp 27)),
 gw 29 26 false (.mv (.tmp 4)),
 gw 30 26 false (.idxP 10 2 (.tmp 3) (.tmp 29)),
 gw 31 26 false (.fadd 1 (.tmp 30)),
 gw 32 26 false (.load 1 false (.tmp 31)),
 gw 33 26 false (.bin .gtr (.tmp 28) (.tmp 32)),
 gv 34 (.pick (.tmp 26) (.const (.bool true)) (.tmp 33))]
def c35r6 : List GOp:=[
 gv 2 (.mv (.const (.bool false)))]
def c35r7 : List GOp:=[
 gv 35 (.bin .add (.tmp 8) (.const (.int .i64 1))),
 gv 8 (.mv (.tmp 35))]
def c35l8 : DE:=.seq (.reg c35r3) (.seq (.cond (.tmp 9) (.skip) (.exit 0)) (.seq (.block 1 (.join (.reg c35r4) (.join (.par true true true 21 c35r5) (.cond (.tmp 34) (.seq (.reg c35r6) (.ret)) (.skip))))) (.reg c35r7)))
def c35r9 : List GOp:=[
 gv 2 (.mv (.const (.bool true)))]
def c35 : EFn:=⟨36,.seq (.reg c35r0) (.seq (.reg c35r1) (.join (.seq (.reg c35r2) (.block 0 (.loop c35l8))) (.seq (.reg c35r9) (.ret)))),[.tmp 2]⟩
theorem c35_ok : compF Tryd.prog 35=some c35.er:=by kernel_rfl
set_option maxHeartbeats 4000000 in
theorem decide_within_R {P:Program}(hP:P=Tryd.prog)(z_:(A10 Range))(r:Bool)(h:decide_within_g z_=some r):Fn1 P 35 [vA10Range z_] (vB r):=by
 refine .walkE (hP▸c35_ok) fun K hK=>?_;unfold decide_within_g at h;cbv;refine .g h (fun v hv=>resolve_Limits_R hP v hv) aw_ rfl (fun _=>rfl) fun v1 h=>?_;cbv;refine .ga h (fun (_:Unit)=>rp 36 .top) (fun _=>[]) (fun y hm hr1 Kn1 hKn1=>?_) fun t h=>?_
 ·have h:=hm;clear hm;cbv;refine .g h (fun (v2:Int)=>rp 3 .top++[.ptr 0 0]++rp 3 .top++[.agg (cR z_),oi v2]++rp 27 .top) (fun v2=>[.cells (cR v1) 57]) (.nz (.mtE [1] ?_)) fun s x h hr2 Kn2 hKn2=>?_
  ·(cbv;repeat (refine⟨an_,?_⟩;cbv))
  unfold decide_within_l2 at h;obtain⟨v2,rfl⟩:=ez s;cbv;refine brkG h ?_ ?_<;>intro h
  ·cbv;refine .g h (fun ((Lo3,Hi4):Int×Int)=>rp 3 .top++[.ptr 0 0,oi v2,.ptr 1 0,.top,.agg (cR z_),oi v2]++rp 27 .top) (fun (Lo3,Hi4)=>[.cells (cR v1) 57,.cells [oi Lo3,oi Hi4] 55]) (fun y hm Kn3 hKn3=>?_) fun t h=>?_
   ·have h:=hm;clear hm;cbv
    refine .c10 h ?_ ?_ ?_ ?_ ?_ ?_ ?_ ?_ ?_ ?_<;>(
     intro hni5 h;cbv;obtain rfl:=oj h;refine hKn3 _ _ _ rfl (.nz (.mtE [0,1] ?_));(cbv;repeat (refine⟨an_,?_⟩;cbv))
     )
   obtain⟨Lo3,Hi4⟩:=t;cbv;refine .g h (fun (v6:Bool)=>rp 3 .top++[.ptr 0 0]++rp 3 .top++[.agg (cR z_),oi v2]++rp 25 .top++[ob v6,.top]) (fun v6=>[.cells (cR v1) 57]) (fun y hm Kn3 hKn3=>?_) fun t h=>?_
   ·have h:=hm;clear hm;cbv;refine brkG h ?_ ?_<;>intro h
    ·cbv;obtain rfl:=oj h;refine hKn3 _ _ _ rfl (.nz (.mtE [0] ?_));(cbv;repeat (refine⟨an_,?_⟩;cbv))
    ·cbv
     refine .c10 h ?_ ?_ ?_ ?_ ?_ ?_ ?_ ?_ ?_ ?_<;>(
      intro hni7 h;cbv;refine brkG h ?_ ?_<;>intro h
      ·cbv;obtain rfl:=oj h;refine hKn3 _ _ _ rfl (.nz (.mtE [0] ?_));(cbv;repeat (refine⟨an_,?_⟩;cbv))
      ·cbv;refine .at _ hni7 (by decide) ?_;cbv;obtain rfl:=oj h;refine hKn3 _ _ _ rfl (.nz (.mtE [0] ?_));(cbv;repeat (refine⟨an_,?_⟩;cbv))
      )
   obtain⟨v6,rfl⟩:=ez t;cbv;refine brkG h ?_ ?_<;>intro h
   ·cbv;obtain rfl:=oj h;obtain rfl:=hr2 _ rfl;obtain rfl:=hr1 _ rfl;exact hK _ _ aw_
   ·cbv;obtain rfl:=oj h;refine hKn2 _ _ _ rfl (.nz (.mtE [0] ?_));(cbv;repeat (refine⟨an_,?_⟩;cbv))
  ·cbv;obtain rfl:=oj h;obtain rfl:=hr2 _ rfl;refine hKn1 _ _ _ rfl (.nz (.mtE [] ?_));(cbv;repeat (refine⟨an_,?_⟩;cbv))
 cbv;obtain rfl:=oj h;exact hK _ _ aw_
end Go.SX.Td
