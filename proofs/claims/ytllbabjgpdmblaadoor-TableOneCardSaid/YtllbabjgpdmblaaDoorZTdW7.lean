/- Parts of the proof. -/
import Derived.Test.YtllbabjgpdmblaaDoorZTdW
import Derived.Test.YtllbabjgpdmblaaDoorZTdR8
import Derived.Test.YtllbabjgpdmblaaDoorZTd7
set_option linter.unusedSimpArgs false
set_option linter.unusedVariables false
set_option linter.unusedSectionVars false
namespace Go.Proofs.YtllbabjgpdmblaaDoor
open Go Go.ChangeShapes Go.WideShapes Go.ChangeAt Go.RowKit
set_option maxRecDepth 100000 in
theorem lv0 (os:Os)(started:os.Started)(H:Type)(enc:TypeId×Value→H) :
  ReturnsInHanded {} Tryd.checked os 7 .any (fun w args=>(Rows.tableOneSpec.pre enc Tryd.prog Tryd.f7 [] false w args∧laidMetH Tryd.prog Rows.tableOneRow.laid w)∧sizedMet enc Tryd.prog Tryd.f7 (OpenSpec.ofChange Rows.tableOneSpec) false w args)
   (Rows.tableOneSpec.post enc Tryd.prog Tryd.f7 false true false false):=by
 refine returnsInHanded_of_change_and (C:=Tryd.checked) (X:=fun w _=>laidMetH Tryd.prog Rows.tableOneRow.laid w) (fun _ _ _ hh h=>h.of_heap hh) SX.Td.ownN started (by kernel_rfl) Tryd.func7
  (ChangeSpec.witness_shaped (enc:=enc) (C:=Tryd.checked) (os:=os) (X:=fun w _=>laidMetH Tryd.prog Rows.tableOneRow.laid w) false (World.doorLaid Tryd.prog 24 os) #[.agg #[.slice none 0 0],.int .u8 0,.int .u8 0,.int .i64 0] 8 rfl (World.shaped_of_RefB (by kernel_rfl) (by kernel_rfl)) (by kernel_rfl) (by kernel_rfl) (by kernel_rfl) (door_met os _)) ?_
 intro W base args ds gs before hval0 hW _ _ hL _
 have hval:∀ (j:Nat) t v,Tryd.f7.params[j]?=some t→args[j]?=some v→Value.okWide Tryd.prog W .any base t v:=hval0
 have hT:SX.Tabs.ok (SX.memF W):=tabs_of hL
 have hW':=hW
 obtain⟨p,q,hA0,hV,rfl,hfz,hnd⟩:=hW
 have hA:DataW.TrodAll enc Tryd.prog W 0 (fun _=>true) true Tryd.f7.params.toList args.toList ds p:=hA0
 rw[Tryd.params7] at hA hval
 clear hA0 hval0
 obtain⟨v0,vs0,d0,ds0,p0,q0,hvs,rfl,rfl,h0,hA0⟩:=trodAll_cons hA
 obtain⟨v1,vs1,d1,ds1,p1,q1,rfl,rfl,rfl,h1,hA1⟩:=trodAll_cons hA0
 obtain⟨v2,vs2,d2,ds2,p2,q2,rfl,rfl,rfl,h2,hA2⟩:=trodAll_cons hA1
 obtain⟨v3,vs3,d3,ds3,p3,q3,rfl,rfl,rfl,h3,hA3⟩:=trodAll_cons hA2
 obtain⟨rfl,rfl,rfl⟩:=trodAll_nil hA3
 have hargs:args=#[v0,v1,v2,v3]:=Array.ext' hvs
 subst hargs
 obtain⟨rfl,rfl⟩:=trodVars_none hV
 obtain⟨p,r0,hP⟩:=SX.Td.openPolicy (hval 0 24 v0 rfl rfl) h0
 obtain⟨a,r1,hY⟩:=SX.Td.openByte (hval 1 5 v1 rfl rfl) h1
 obtain⟨b,r2,hZ⟩:=SX.Td.openByte (hval 2 5 v2 rfl rfl) h2
 obtain⟨n,r3,hI⟩:=SX.Td.openInt (hval 3 3 v3 rfl rfl) h3
 simp only[List.append_nil] at hW'
 have hfn:SX.Fn1 Tryd.prog 7 [SX.Td.vPolicy p,SX.Td.vIu8 a,SX.Td.vIu8 b,SX.Td.vIi64 n] (SX.Td.vB true):=SX.Td.da0 rfl p a b n true (SX.Td.TableOne_eq hP hY hZ hI)
 have hcall:=SX.Td.lawCalls (w:=W) (us:=[v0,v1,v2,v3]) hT hfn (.cons r0 (.cons r1 (.cons r2 (.cons r3 .nil))))
 refine hcall.mono fun e W' ⟨he,hb⟩=>?_
 subst he
 exact⟨_,rfl,lawPost rfl hW' (fun t ht=>by
  rw[Tryd.params7] at ht
  simp only[List.mem_cons,List.mem_toArray,List.not_mem_nil,or_false] at ht
  rcases ht with rfl | rfl | rfl | rfl<;>exact⟨by kernel_rfl,of_decide_eq_true (by kernel_rfl)⟩) (by kernel_rfl) rfl hb⟩
theorem tableOne_holds : Rows.TableOneSaid :=
 OpenClaim.holds_of_wide 7 Tryd.f7 rfl rfl rfl rfl rfl rfl rfl ⟨rfl,rfl,rfl,rfl,rfl⟩ rfl rfl rfl rfl rfl (by kernel_rfl) Tryd.func7 (by kernel_rfl)
  (of_decide_eq_true (by kernel_rfl)) (by unfold Func.isWrapper;first | (rw[if_pos (by decide +kernel)];kernel_rfl) | (rw[if_neg (by decide +kernel)];exact⟨rfl,rfl⟩))
  (fun os started H enc _=>lv0 os started H enc)
theorem tableOneCard_holds : Rows.TableOneCardSaid :=
 Claim7.holds_tied_plain_at .later [] [.data,.data,.data] true Rows.tableOneCard.stood.harness false
  tableOne_holds (fun _ h=>by cases h) (by kernel_rfl) (fun _ h=>by cases h) tableOne_row_tie rfl ⟨rfl,rfl⟩ (by kernel_rfl) rfl
  (fun f fn hf hfn=>by
   obtain rfl:f=7:=Option.some.inj ((show Tryd.prog.funcNamed Rows.tableOneRow.func=some 7 by kernel_rfl).symm.trans hf) |>.symm
   obtain rfl:fn=Tryd.f7:=(Option.some.inj (Tryd.func7.symm.trans hfn)).symm
   exact⟨by kernel_rfl,fun j t ht=>by
    rw[Tryd.params7] at ht
    have hm:t∈[24,5,5,3]:=by simpa using Array.mem_of_getElem? ht
    have hall:([24,5,5,3].all fun u=>!Tryd.prog.wantsStandIn u)=true:=by kernel_rfl
    exact(show Tryd.prog.wantsStandIn t=false by simpa using List.all_eq_true.1 hall t hm)⟩)
  (by kernel_rfl)
#print axioms tableOneCard_holds
end Go.Proofs.YtllbabjgpdmblaaDoor
